-- By drv.py, the session's own driver round the kit's print: the machine's side of the laws, function by function. Not trusted: Lean checks it.
import Derived.Test.YtoajlmmkkcelgaaDoorAx0
import Derived.Test.YtoajlmmkkcelgaaDoorAx2
import Derived.Test.YtoajlmmkkcelgaaDoorAx17
import Derived.Test.YtoajlmmkkcelgaaDoorAx24
import Derived.Test.YtoajlmmkkcelgaaDoorAx27
namespace Go.Proofs.YtoajlmmkkcelgaaDoor.A
open Go.RowKit Go.Proofs.YtoajlmmkkcelgaaDoorW.PrintWords Go.Proofs.YtoajlmmkkcelgaaDoorW.PrintLast Go.Proofs.YtoajlmmkkcelgaaDoorW.PrintMore
attribute [local go_sem] max2_int min2_int max_two min_two max_three min_three max_four min_four   -- for this text's walks alone
set_option linter.unusedVariables false
set_option linter.unusedSimpArgs false

attribute [local go_sem high] eqA64
/-! ### lex_Place: function 33, by hand -/
def lex_Place.go (s : ByteArray) : Nat → Nat → Int → Int → Int → Option (Int × Int)
 | 0, _, _, _, _ => none
 | f + 1, pos, a, line, col => if pos < s.size then (if a ≤ 0 then some (line, col) else if ((Utf8.decode s pos).1 : Int) = 10 then lex_Place.go s f (pos + (Utf8.decode s pos).2) (wrap64 (a - 1)) (wrap64 (line + 1)) 1 else lex_Place.go s f (pos + (Utf8.decode s pos).2) (wrap64 (a - 1)) line (wrap64 (col + 1))) else some (line, col)
def lex_Place.f (a0 : ByteArray) (a1 : Int) : Option (Int × Int) := if a0.size ≤ 1099511627776 then (if Lib.validD a0.data.toList = true then lex_Place.go a0 (a0.size + 1) 0 a1 1 1 else some (0, 0)) else none
set_option maxHeartbeats 4000000 in
set_option maxRecDepth 100000 in
theorem lex_Place.calls (a0 : ByteArray) (a1 : Int) (r1 : Int) (r2 : Int) (w : World) (hT : Tabs w) (h : lex_Place.f a0 a1 = some (r1, r2)) :
  Calls Tryd.prog 33 #[.string a0, .int .i64 a1] w fun e w' => e = .returned (.tuple #[.int .i64 r1, .int .i64 r2]) ∧ Below w.heap.size w w' := by
 unfold lex_Place.f at h
 split at h
 ·rename_i hs
  have cV := Tryd.utf8_ValidString a0 w (by omega) hT.u8
  by_cases hv : Lib.validD a0.data.toList = true
  ·rw [if_pos hv] at h
   have H := Lib.hid h
   rw [hv] at cV
   clear h hv
   go_enter Tryd.func33, Tryd.ntmps33
   go_wp2_with (go_at_call 53; refine cV.mono ?_; rintro e w1 ⟨rfl, hb1⟩)
   go_loopw [1, 4, 5] (fun v1 v4 v5 wr => ∃ (pos fuel : Nat) (a line col : Int), v1 = .int .i64 a ∧ v4 = .int .i64 line ∧ v5 = .int .i64 col ∧ wr.heap[w1.heap.size]? = some (.stringIter a0 pos) ∧ Below w.heap.size w wr ∧ Hid (lex_Place.go a0 fuel pos a line col = some (r1, r2))) (fun _ _ _ wr => a0.size - wr.iterPos w1.heap.size)
   case atStart => exact ⟨0, _, a1, 1, 1, rfl, rfl, rfl, World.iter_heap w1 a0 0, hb1.alloc hb1.size _, H⟩
   case round =>
    obtain ⟨pos, fuel, a, line, col, rfl, rfl, rfl, hit, hbw, HG⟩ := hrel
    clear H
    have hsz : w1.heap.size < wr.heap.size := (Array.getElem?_eq_some_iff.1 hit).1
    have hsw : w.heap.size ≤ w1.heap.size := hb1.size
    cases fuel with
    | zero => exact absurd HG.out (by simp [lex_Place.go])
    | succ f =>
     have hgo := HG.out
     clear HG
     unfold lex_Place.go at hgo
     by_cases hp : pos < a0.size
     ·rw [if_pos hp] at hgo
      have hnx : ∀ ty, (Instr.next (.pointer (some ⟨w1.heap.size, 0, none⟩)) true ty).run Tryd.prog wr = _ := fun ty => Lib.run_next_any_at wr w1.heap.size a0 pos ty hit hp
      have Hwd := Lib.hid (Lib.width_pos a0 pos)
      have Hd1 := Lib.hid (decode_le a0 pos)
      have hit2 := Lib.iterAt_heap wr w1.heap.size a0 pos (pos + (Utf8.decode a0 pos).2) hit
      have hbw2 := Lib.below_iterAt hbw (k := w1.heap.size) hsw a0 (pos + (Utf8.decode a0 pos).2)
      by_cases ha : a ≤ 0
      ·rw [if_pos ha] at hgo
       have hgo := Option.some.inj hgo
       simp only [Prod.mk.injEq] at hgo
       obtain ⟨rfl, rfl⟩ := hgo
       have b1 : decide (a ≤ 0) = true := decide_eq_true ha
       clear ha
       go_wp2
       go_ret2
       exact ⟨rfl, hbw2⟩
      ·rw [if_neg ha] at hgo
       have b1 : decide (a ≤ 0) = false := decide_eq_false ha
       clear ha
       by_cases hn : (((Utf8.decode a0 pos).1 : Nat) : Int) = 10
       ·rw [if_pos hn] at hgo
        have b2 : ((((Utf8.decode a0 pos).1 : Nat) : Int) == 10) = true := beq_iff_eq.2 hn
        have HE := Lib.hid hgo
        clear hn hgo
        go_wp2
        go_roundw
        case rel => exact ⟨_, f, _, _, _, (by simp only [i64_w]), (by simp only [i64_w]), rfl, hit2, hbw2, HE⟩
        case measure =>
         have hwd := Hwd.out
         have hd1 := Hd1.out
         simp only [World.iterPos, hit2, hit]
         omega
       ·rw [if_neg hn] at hgo
        have b2 : ((((Utf8.decode a0 pos).1 : Nat) : Int) == 10) = false := beq_eq_false_iff_ne.2 hn
        have HE := Lib.hid hgo
        clear hn hgo
        go_wp2
        go_roundw
        case rel => exact ⟨_, f, _, _, _, (by simp only [i64_w]), rfl, (by simp only [i64_w]), hit2, hbw2, HE⟩
        case measure =>
         have hwd := Hwd.out
         have hd1 := Hd1.out
         simp only [World.iterPos, hit2, hit]
         omega
     ·rw [if_neg hp] at hgo
      have hgo := Option.some.inj hgo
      simp only [Prod.mk.injEq] at hgo
      obtain ⟨rfl, rfl⟩ := hgo
      have hnx : ∀ ty, (Instr.next (.pointer (some ⟨w1.heap.size, 0, none⟩)) true ty).run Tryd.prog wr = _ := fun ty => Lib.run_next_end_at wr w1.heap.size a0 pos ty hit hp
      go_wp2
      go_ret2
      exact ⟨rfl, hbw⟩
  ·rw [if_neg hv] at h
   have h := Option.some.inj h
   simp only [Prod.mk.injEq] at h
   obtain ⟨rfl, rfl⟩ := h
   rw [Bool.eq_false_iff.2 hv] at cV
   clear hv
   go_enter Tryd.func33, Tryd.ntmps33
   go_wp2_with (go_at_call 53; refine cV.mono ?_; rintro e w1 ⟨rfl, hb1⟩)
   go_ret2
   exact ⟨rfl, hb1⟩
 ·cases h

/-! ### caduceusref07_Find: function 34 -/
mutual
def caduceusref07_Find.l0 : Nat → Int → List Int → Int → Int → Int → Option (Int × Int)
 | 0, _, _, _, _, _ => none
 | k + 1, x1, x5, x7, x593000, x593001 => if x7 < (x5.length : Int) then (caduceusref07_Find.j1 k x1 x5 x7 (decide (x7 < x1)) x593000 x593001) else (caduceusref07_Find.j1 k x1 x5 x7 false x593000 x593001)
def caduceusref07_Find.j1 : Nat → Int → List Int → Int → Bool → Int → Int → Option (Int × Int)
 | 0, _, _, _, _, _, _ => none
 | k + 1, x1, x5, x7, x23, x593000, x593001 => if x23 = true then (if 0 ≤ x7 then (if x7 < (x5.length : Int) then (if (rd x5 x7) = 10 then (caduceusref07_Find.l0 k x1 x5 (wrap64 (x7 + 1)) (wrap64 (x593000 + 1)) 1) else (caduceusref07_Find.l0 k x1 x5 (wrap64 (x7 + 1)) x593000 (wrap64 (x593001 + 1)))) else (none)) else (none)) else (some (x593000, x593001))
end
def caduceusref07_Find.f (k : Nat) (a0 : ByteArray) (a1 : Int) : Option (Int × Int) := (caduceusref02_Valid.f k a0).bind fun t588 => (if t588 = true then ((caduceusref02_Runes.f k a0).bind fun t589 => (caduceusref07_Find.l0 k a1 t589 0 1 1)) else (some (0, 0)))
theorem caduceusref07_Find.mono_l : ∀ k, (∀ y0 y1 y2 y3 y4, LeO (caduceusref07_Find.l0 k y0 y1 y2 y3 y4) (caduceusref07_Find.l0 (k + 1) y0 y1 y2 y3 y4)) ∧ (∀ y0 y1 y2 y3 y4 y5, LeO (caduceusref07_Find.j1 k y0 y1 y2 y3 y4 y5) (caduceusref07_Find.j1 (k + 1) y0 y1 y2 y3 y4 y5))
 | 0 => ⟨fun _ _ _ _ _ r h => by simp [caduceusref07_Find.l0] at h, fun _ _ _ _ _ _ r h => by simp [caduceusref07_Find.j1] at h⟩
 | k + 1 => by
  obtain ⟨ih0, ih1⟩ := caduceusref07_Find.mono_l k
  refine ⟨?_, ?_⟩
  all_goals intros
  all_goals first | unfold caduceusref07_Find.l0 | unfold caduceusref07_Find.j1
  all_goals repeat' first
   | (with_reducible exact ih0 _ _ _ _ _)
   | (with_reducible exact ih1 _ _ _ _ _ _)
   | (with_reducible exact caduceusref02_Runes.mono _ _)
   | (with_reducible exact caduceusref02_Valid.mono _ _)
   | (with_reducible exact LeO.refl _)
   | (with_reducible exact LeO.none _)
   | (with_reducible refine LeO.ite ?_ ?_)
   | (with_reducible refine LeO.bind ?_ (fun _ => ?_))
   | exact ih0 _ _ _ _ _
   | exact ih1 _ _ _ _ _ _
   | exact caduceusref02_Runes.mono _ _
   | exact caduceusref02_Valid.mono _ _
   | exact LeO.none _
   | refine LeO.ite ?_ ?_
   | refine LeO.bind ?_ (fun _ => ?_)
theorem caduceusref07_Find.mono : ∀ a0 a1 k, LeO (caduceusref07_Find.f k a0 a1) (caduceusref07_Find.f (k + 1) a0 a1) := by
 intro a0 a1 k
 obtain ⟨ih0, ih1⟩ := caduceusref07_Find.mono_l k
 unfold caduceusref07_Find.f
 repeat' first
   | (with_reducible exact ih0 _ _ _ _ _)
   | (with_reducible exact ih1 _ _ _ _ _ _)
   | (with_reducible exact caduceusref02_Runes.mono _ _)
   | (with_reducible exact caduceusref02_Valid.mono _ _)
   | (with_reducible exact LeO.refl _)
   | (with_reducible exact LeO.none _)
   | (with_reducible refine LeO.ite ?_ ?_)
   | (with_reducible refine LeO.bind ?_ (fun _ => ?_))
   | exact ih0 _ _ _ _ _
   | exact ih1 _ _ _ _ _ _
   | exact caduceusref02_Runes.mono _ _
   | exact caduceusref02_Valid.mono _ _
   | exact LeO.none _
   | refine LeO.ite ?_ ?_
   | refine LeO.bind ?_ (fun _ => ?_)
set_option maxHeartbeats 8000000 in
set_option maxRecDepth 100000 in
theorem caduceusref07_Find.calls (k : Nat) (a0 : ByteArray) (a1 : Int) (r1 : Int) (r2 : Int) (w : World) (h : caduceusref07_Find.f k a0 a1 = some (r1, r2)) :
  Calls Tryd.prog 34 #[.string a0, .int .i64 a1] w fun e w' => e = .returned (.agg #[.int .i64 r1, .int .i64 r2]) ∧ Below w.heap.size w w' := by
 have hu64 := Tryd.underlying64
 have HB := Aside0.mk (Below.refl w.heap.size w)
 have H : ((caduceusref02_Valid.f k a0).bind fun t588 => (if t588 = true then ((caduceusref02_Runes.f k a0).bind fun t589 => (caduceusref07_Find.l0 k a1 t589 0 1 1)) else (some (0, 0)))) = some (r1, r2) := h
 clear h
 replace H := Option.bind_eq_some_iff.mp H
 obtain ⟨t588, A30, H⟩ := H
 replace H : (if t588 = true then ((caduceusref02_Runes.f k a0).bind fun t589 => (caduceusref07_Find.l0 k a1 t589 0 1 1)) else (some (0, 0))) = some (r1, r2) := H
 have A3 := Aside0.mk A30
 clear A30
 by_cases c4 : t588 = true
 ·subst c4
  have H1 : ((caduceusref02_Runes.f k a0).bind fun t589 => (caduceusref07_Find.l0 k a1 t589 0 1 1)) = some (r1, r2) := by rw [if_pos rfl] at H; exact H
  clear H
  have H := H1
  clear H1
  replace H := Option.bind_eq_some_iff.mp H
  obtain ⟨t589, A50, H⟩ := H
  replace H : (caduceusref07_Find.l0 k a1 t589 0 1 1) = some (r1, r2) := H
  have A5 := Aside0.mk A50
  clear A50
  have H' := Aside0.mk H
  clear H
  go_enter Tryd.func34, Tryd.ntmps34
  go_wp2_with (first | ((with_reducible refine gate_dst (N := 4) rfl ?_); refine box_event ?hg (N := 4) ?hd (cs := #[.int .i64 0, .int .i64 0]) (t := 64) ?hr ?_; (case hd => rfl); (case hg => rfl); (case hr => first | (go_simp; done) | (go_simp; rfl)); intro gb587 hg w6 hbox hb; have n0_ := Aside0.mk (below_step bwA hb); have n1_ := Aside0.mk (hbox); have n2_ := Aside0.mk ((by rw [hg]; exact (below_size bwA) : w.heap.size ≤ gb587)); have n3_ := Aside0.mk ((by rw [hg]; exact (below_size bwA) : w.heap.size ≤ gb587)); clear HB; have HB := n0_; have BK587 := n1_; have GW587 := n2_; have GE587 := n3_; clear n0_ n1_ n2_ n3_; clear hb hbox hg) | ((with_reducible refine gate_callee (f := 57) rfl ?_); refine goesA (some 9) Tryd.func57 #[.string a0] ?_; (with_reducible refine (caduceusref02_Valid.calls k a0 true _ A3.out).mono ?_); rintro e w7 ⟨rfl, hb⟩; refine ⟨_, rfl, ?_⟩; have n0_ := Aside0.mk (blk_below (g := gb587) (o := .cells #[.int .i64 0, .int .i64 0] 64 (0, 0)) blkA hb); have n1_ := Aside0.mk (below_step bwA hb); clear BK587; clear HB; have BK587 := n0_; have HB := n1_; clear n0_ n1_; (try clear hb); (try clear hb2); (try clear hk); (try clear hi)) | ((with_reducible refine gate_callee (f := 38) rfl ?_); refine goesA (some 13) Tryd.func38 #[.string a0] ?_; (with_reducible refine (caduceusref02_Runes.calls k a0 t589 _ A5.out).mono ?_); rintro e w8 ⟨v590, rfl, ho0, hb⟩; refine ⟨_, rfl, ?_⟩; have n0_ := Aside0.mk (Kd.R_lower ho0 (below_size bwA)); have n1_ := Aside0.mk (blk_below (g := gb587) (o := .cells #[.int .i64 0, .int .i64 0] 64 (0, 0)) blkA hb); have n2_ := Aside0.mk (below_step bwA hb); clear BK587; clear HB; have HO591 := n0_; have BK587 := n1_; have HB := n2_; clear n0_ n1_ n2_; (try clear hb); (try clear hb2); (try clear hk); (try clear hi); (try clear ho0)) | ((with_reducible refine gate_dst (N := 6) rfl ?_); refine box_event ?hg (N := 6) ?hd (cs := #[.int .i64 0, .int .i64 0]) (t := 64) ?hr ?_; (case hd => rfl); (case hg => rfl); (case hr => first | (go_simp; done) | (go_simp; rfl)); intro gb592 hg w9 hbox hb; have n0_ := Aside0.mk (Kd.R_below (by (with_reducible repeat (first | apply Kd.R_alloc | apply Kd.R_drewN | apply Kd.R_drew)); exact HO591.out) hb); have n1_ := Aside0.mk (blk_below (g := gb587) (o := .cells #[.int .i64 0, .int .i64 0] 64 (0, 0)) blkA hb); have n2_ := Aside0.mk (below_step bwA hb); have n3_ := Aside0.mk (hbox); have n4_ := Aside0.mk ((by rw [hg]; exact (below_size bwA) : w.heap.size ≤ gb592)); have n5_ := Aside0.mk ((by rw [hg]; exact (below_size bwA) : w.heap.size ≤ gb592)); have n6_ := Aside0.mk ((by rw [hg]; exact Nat.ne_of_lt (blk_lt (g := gb587) (o := .cells #[.int .i64 0, .int .i64 0] 64 (0, 0)) blkA) : gb587 ≠ gb592)); have n7_ := Aside0.mk ((by rw [hg]; exact Nat.ne_of_gt (blk_lt (g := gb587) (o := .cells #[.int .i64 0, .int .i64 0] 64 (0, 0)) blkA) : gb592 ≠ gb587)); clear HO591; clear BK587; clear HB; have HO591 := n0_; have BK587 := n1_; have HB := n2_; have BK592 := n3_; have GW592 := n4_; have GE592 := n5_; have NB587_592 := n6_; have NB592_587 := n7_; clear n0_ n1_ n2_ n3_ n4_ n5_ n6_ n7_; clear hb hbox hg; have hnb10 := NB592_587.out; have hnc10 := NB587_592.out; have hcz11_0 : w9.cell? ⟨gb592, 0, none⟩ = some (.int .i64 0) := (blk_cell BK592.out 0).trans rfl; have hcz11_1 : w9.cell? ⟨gb592, 1, none⟩ = some (.int .i64 0) := (blk_cell BK592.out 1).trans rfl; have hfz11_0 := blk_frozen BK592.out 0; have hfz11_1 := blk_frozen BK592.out 1))
  go_loopg [7] k (fun kq v7 w' => ∃ (x7_1 : Int) (x593000_1 : Int) (x593001_1 : Int), v7 = .int .i64 x7_1 ∧ Aside0 (caduceusref07_Find.l0 kq a1 t589 x7_1 x593000_1 x593001_1 = some (r1, r2)) ∧ Aside0 (kq ≤ k) ∧ Aside0 (Kd.R (Kd.int .i64) 3 w' w.heap.size (fun _ => True) v590 t589) ∧ Aside0 (w'.heap[gb587]? = some (.cells #[.int .i64 0, .int .i64 0] 64 (0, 0))) ∧ Aside0 (w'.heap[gb592]? = some (.cells #[.int .i64 x593000_1, .int .i64 x593001_1] 64 (0, 0))) ∧ Aside0 (Below w.heap.size w w'))
  case atStart => exact ⟨(0), (1), (1), (by first | rfl | (simp; done) | (simp [*]; done)), H', ⟨Nat.le_refl _⟩, ⟨by (with_reducible repeat (first | apply Kd.R_alloc | apply Kd.R_drewN | apply Kd.R_drew)); exact Kd.R_mono (Kd.R_far (p := ⟨gb592, 1, none⟩) (Kd.R_far (p := ⟨gb592, 0, none⟩) (Kd.R_types HO591.out BK592.out (by decide)) (fun _ hk => hk.2) (.int .i64 1)) (fun _ hk => hk.2) (.int .i64 1)) (fun _ hk => trivial)⟩, ⟨by (with_reducible repeat (first | refine blk_drewN ?_ _ | refine blk_drew ?_ | refine blk_alloc ?_ _)); refine blk_far ?_ NB587_592.out _; (with_reducible repeat (first | refine blk_drewN ?_ _ | refine blk_drew ?_ | refine blk_alloc ?_ _)); refine blk_far ?_ NB587_592.out _; (with_reducible repeat (first | refine blk_drewN ?_ _ | refine blk_drew ?_ | refine blk_alloc ?_ _)); exact BK587.out⟩, ⟨by (with_reducible repeat (first | refine blk_drewN ?_ _ | refine blk_drew ?_ | refine blk_alloc ?_ _)); refine blk_put (cs := #[.int .i64 1, .int .i64 0]) ?_ 1 _ rfl; (with_reducible repeat (first | refine blk_drewN ?_ _ | refine blk_drew ?_ | refine blk_alloc ?_ _)); refine blk_put (cs := #[.int .i64 0, .int .i64 0]) ?_ 0 _ rfl; (with_reducible repeat (first | refine blk_drewN ?_ _ | refine blk_drew ?_ | refine blk_alloc ?_ _)); exact BK592.out⟩, ⟨by repeat (first | (with_reducible first | exact HB.out | apply below_alloc | apply pw_below_drewN | apply below_drew1 | refine below_set ?_ GE587.out | refine below_set ?_ GE592.out) | exact HB.out)⟩⟩
  case round =>
   clear H'
   try clear c1
   try clear p2
   try clear c3
   try clear c4
   try clear c5
   try clear c10
   try clear hcz11_0
   try clear hcz11_1
   try clear hfz11_0
   try clear hfz11_1
   obtain ⟨x7_1, x593000_1, x593001_1, rfl, HA, HK1, HO_5, BK587, BK592, HB⟩ := hrel
   cases gk with
   | zero => exact absurd HA.out (by simp [caduceusref07_Find.l0])
   | succ k1 =>
    have H := HA.out
    clear HA
    simp only [caduceusref07_Find.l0] at H
    have HC12 := Aside0.mk H
    clear H
    go_upto_region 6 with (fail)
    go_cut [23] (fun v23 wc => ∃ (kq : Nat) (x23_11 : Bool), v23 = .bool x23_11 ∧ Aside0 (caduceusref07_Find.j1 kq a1 t589 x7_1 x23_11 x593000_1 x593001_1 = some (r1, r2)) ∧ Aside0 (kq ≤ k1) ∧ Aside0 (Kd.R (Kd.int .i64) 3 wc w.heap.size (fun _ => True) v590 t589) ∧ Aside0 (wc.heap[gb587]? = some (.cells #[.int .i64 0, .int .i64 0] 64 (0, 0))) ∧ Aside0 (wc.heap[gb592]? = some (.cells #[.int .i64 x593000_1, .int .i64 x593001_1] 64 (0, 0))) ∧ Aside0 (Below w.heap.size w wc))
    case first =>
     have H := HC12.out
     clear HC12
     by_cases c13 : x7_1 < (t589.length : Int)
     ·rw [if_pos c13] at H
      have c13b0 : decide (x7_1 < (t589.length : Int)) = true := decide_eq_true c13
      clear c13
      (first | rw [c13b0] | (simp only [i64_w, i32_w]; rw [c13b0]) | skip)
      have H' := Aside0.mk H
      clear H
      obtain ⟨Ao14, co14, eo14⟩ := Kd.R_slice HO_5.out
      subst eo14
      go_wp2
      go_meet
      case rel => exact ⟨_, (decide (x7_1 < a1)), (by first | rfl | (simp; done) | (simp [*]; done)), H', ⟨by have := HK1.out; first | omega | exact Nat.le_refl _⟩, ⟨by (with_reducible repeat (first | apply Kd.R_alloc | apply Kd.R_drewN | apply Kd.R_drew)); exact HO_5.out⟩, ⟨by (with_reducible repeat (first | refine blk_drewN ?_ _ | refine blk_drew ?_ | refine blk_alloc ?_ _)); exact BK587.out⟩, ⟨by (with_reducible repeat (first | refine blk_drewN ?_ _ | refine blk_drew ?_ | refine blk_alloc ?_ _)); exact BK592.out⟩, ⟨by repeat (first | (with_reducible first | exact HB.out | apply below_alloc | apply pw_below_drewN | apply below_drew1 | refine below_set ?_ GE587.out | refine below_set ?_ GE592.out) | exact HB.out)⟩⟩
     ·rw [if_neg c13] at H
      have c13b0 : decide (x7_1 < (t589.length : Int)) = false := decide_eq_false c13
      clear c13
      (first | rw [c13b0] | (simp only [i64_w, i32_w]; rw [c13b0]) | skip)
      have H' := Aside0.mk H
      clear H
      obtain ⟨Ao15, co15, eo15⟩ := Kd.R_slice HO_5.out
      subst eo15
      go_wp2
      go_meet
      case rel => exact ⟨_, (false), (by first | rfl | (simp; done) | (simp [*]; done)), H', ⟨by have := HK1.out; first | omega | exact Nat.le_refl _⟩, ⟨by (with_reducible repeat (first | apply Kd.R_alloc | apply Kd.R_drewN | apply Kd.R_drew)); exact HO_5.out⟩, ⟨by (with_reducible repeat (first | refine blk_drewN ?_ _ | refine blk_drew ?_ | refine blk_alloc ?_ _)); exact BK587.out⟩, ⟨by (with_reducible repeat (first | refine blk_drewN ?_ _ | refine blk_drew ?_ | refine blk_alloc ?_ _)); exact BK592.out⟩, ⟨by repeat (first | (with_reducible first | exact HB.out | apply below_alloc | apply pw_below_drewN | apply below_drew1 | refine below_set ?_ GE587.out | refine below_set ?_ GE592.out) | exact HB.out)⟩⟩
    case rest =>
     clear HC12
     try clear c1
     try clear p2
     try clear c3
     try clear c4
     try clear c5
     try clear c10
     try clear c13
     try clear c13b0
     try clear hcz11_0
     try clear hcz11_1
     try clear hfz11_0
     try clear hfz11_1
     try clear p2
     obtain ⟨kq, x23_11, rfl, HA, HJ11, HO_5, BK587, BK592, HB⟩ := hcut
     cases kq with
     | zero => exact absurd HA.out (by simp [caduceusref07_Find.j1])
     | succ kj11 =>
      have H := HA.out
      clear HA
      simp only [caduceusref07_Find.j1] at H
      by_cases c16 : x23_11 = true
      ·subst c16
       have H1 : (if 0 ≤ x7_1 then (if x7_1 < (t589.length : Int) then (if (rd t589 x7_1) = 10 then (caduceusref07_Find.l0 kj11 a1 t589 (wrap64 (x7_1 + 1)) (wrap64 (x593000_1 + 1)) 1) else (caduceusref07_Find.l0 kj11 a1 t589 (wrap64 (x7_1 + 1)) x593000_1 (wrap64 (x593001_1 + 1)))) else (none)) else (none)) = some (r1, r2) := by rw [if_pos rfl] at H; exact H
       clear H
       have H := H1
       clear H1
       by_cases c17 : 0 ≤ x7_1
       ·rw [if_pos c17] at H
        have c17b0 : decide (0 ≤ x7_1) = true := decide_eq_true c17
        clear c17
        by_cases c18 : x7_1 < (t589.length : Int)
        ·rw [if_pos c18] at H
         have c18b0 : decide (x7_1 < (t589.length : Int)) = true := decide_eq_true c18
         clear c18
         by_cases c19 : (rd t589 x7_1) = 10
         ·rw [if_pos c19] at H
          have c19b0 : ((rd t589 x7_1) == 10) = true := beq_iff_eq.mpr c19
          have c19b1 : ((rd t589 x7_1) != 10) = false := bne_eq_false_iff_eq.mpr c19
          clear c19
          have H' := Aside0.mk H
          clear H
          have hnb20 := NB592_587.out
          have hnc20 := NB587_592.out
          have hcz21_0 : wc.cell? ⟨gb592, 0, none⟩ = some (.int .i64 x593000_1) := (blk_cell BK592.out 0).trans rfl
          have hcz21_1 : wc.cell? ⟨gb592, 1, none⟩ = some (.int .i64 x593001_1) := (blk_cell BK592.out 1).trans rfl
          have hfz21_0 := blk_frozen BK592.out 0
          have hfz21_1 := blk_frozen BK592.out 1
          obtain ⟨Ao22, co22, eo22⟩ := Kd.R_slice HO_5.out
          subst eo22
          have p593 : 0 ≤ (x7_1 : Int) := of_decide_eq_true (by first | (with_reducible assumption) | assumption)
          have q593 : x7_1 < (t589.length : Int) := of_decide_eq_true (by first | (with_reducible assumption) | assumption)
          obtain ⟨ad593, e593, hx593_0⟩ := Kd.at_int (Kd.R_reads' HO_5.out).2.2 x7_1 p593 q593
          cases e593
          have hn593_0 : ad593.block ≠ gb592 := Kd.own_blk (Kd.R_ne HO_5.out BK592.out (by decide))
          replace hx593_0 := (cell_far (p := ⟨gb592, 1, none⟩) (by first | (rw [add_block]; exact hn593_0) | (show (Addr.add _ _).block ≠ _; rw [add_block]; exact hn593_0) | exact hn593_0) (.int .i64 (wrap64 (x593001_1 + 1)))).trans hx593_0
          clear hn593_0
          replace p593 := eq_true p593
          replace q593 := eq_true q593
          go_wp2
          go_roundg kj11
          case measure => have := HK1.out; have := HJ11.out; omega
          case rel => exact ⟨(wrap64 (x7_1 + 1)), (wrap64 (x593000_1 + 1)), (1), (by first | rfl | (simp; done) | (simp [*]; done)), H', ⟨by have := HK1.out; have := HJ11.out; omega⟩, ⟨by (with_reducible repeat (first | apply Kd.R_alloc | apply Kd.R_drewN | apply Kd.R_drew)); exact Kd.R_mono (Kd.R_far (p := ⟨gb592, 1, none⟩) (Kd.R_far (p := ⟨gb592, 0, none⟩) (Kd.R_far (p := ⟨gb592, 1, none⟩) (Kd.R_types HO_5.out BK592.out (by decide)) (fun _ hk => hk.2) (.int .i64 (wrap64 (x593001_1 + 1)))) (fun _ hk => hk.2) (.int .i64 (wrap64 (x593000_1 + 1)))) (fun _ hk => hk.2) (.int .i64 1)) (fun _ hk => trivial)⟩, ⟨by (with_reducible repeat (first | refine blk_drewN ?_ _ | refine blk_drew ?_ | refine blk_alloc ?_ _)); refine blk_far ?_ NB587_592.out _; (with_reducible repeat (first | refine blk_drewN ?_ _ | refine blk_drew ?_ | refine blk_alloc ?_ _)); refine blk_far ?_ NB587_592.out _; (with_reducible repeat (first | refine blk_drewN ?_ _ | refine blk_drew ?_ | refine blk_alloc ?_ _)); refine blk_far ?_ NB587_592.out _; (with_reducible repeat (first | refine blk_drewN ?_ _ | refine blk_drew ?_ | refine blk_alloc ?_ _)); exact BK587.out⟩, ⟨by (with_reducible repeat (first | refine blk_drewN ?_ _ | refine blk_drew ?_ | refine blk_alloc ?_ _)); refine blk_put (cs := #[.int .i64 (wrap64 (x593000_1 + 1)), .int .i64 (wrap64 (x593001_1 + 1))]) ?_ 1 _ rfl; (with_reducible repeat (first | refine blk_drewN ?_ _ | refine blk_drew ?_ | refine blk_alloc ?_ _)); refine blk_put (cs := #[.int .i64 x593000_1, .int .i64 (wrap64 (x593001_1 + 1))]) ?_ 0 _ rfl; (with_reducible repeat (first | refine blk_drewN ?_ _ | refine blk_drew ?_ | refine blk_alloc ?_ _)); refine blk_put (cs := #[.int .i64 x593000_1, .int .i64 x593001_1]) ?_ 1 _ rfl; (with_reducible repeat (first | refine blk_drewN ?_ _ | refine blk_drew ?_ | refine blk_alloc ?_ _)); exact BK592.out⟩, ⟨by repeat (first | (with_reducible first | exact HB.out | apply below_alloc | apply pw_below_drewN | apply below_drew1 | refine below_set ?_ GE587.out | refine below_set ?_ GE592.out) | exact HB.out)⟩⟩
         ·rw [if_neg c19] at H
          have c19b0 : ((rd t589 x7_1) == 10) = false := beq_eq_false_iff_ne.mpr c19
          have c19b1 : ((rd t589 x7_1) != 10) = true := bne_iff_ne.mpr c19
          have H' := Aside0.mk H
          clear H
          have hnb23 := NB592_587.out
          have hnc23 := NB587_592.out
          have hcz24_0 : wc.cell? ⟨gb592, 0, none⟩ = some (.int .i64 x593000_1) := (blk_cell BK592.out 0).trans rfl
          have hcz24_1 : wc.cell? ⟨gb592, 1, none⟩ = some (.int .i64 x593001_1) := (blk_cell BK592.out 1).trans rfl
          have hfz24_0 := blk_frozen BK592.out 0
          have hfz24_1 := blk_frozen BK592.out 1
          obtain ⟨Ao25, co25, eo25⟩ := Kd.R_slice HO_5.out
          subst eo25
          have p593 : 0 ≤ (x7_1 : Int) := of_decide_eq_true (by first | (with_reducible assumption) | assumption)
          have q593 : x7_1 < (t589.length : Int) := of_decide_eq_true (by first | (with_reducible assumption) | assumption)
          obtain ⟨ad593, e593, hx593_0⟩ := Kd.at_int (Kd.R_reads' HO_5.out).2.2 x7_1 p593 q593
          cases e593
          have hn593_0 : ad593.block ≠ gb592 := Kd.own_blk (Kd.R_ne HO_5.out BK592.out (by decide))
          replace hx593_0 := (cell_far (p := ⟨gb592, 1, none⟩) (by first | (rw [add_block]; exact hn593_0) | (show (Addr.add _ _).block ≠ _; rw [add_block]; exact hn593_0) | exact hn593_0) (.int .i64 (wrap64 (x593001_1 + 1)))).trans hx593_0
          clear hn593_0
          replace p593 := eq_true p593
          replace q593 := eq_true q593
          go_wp2
          go_roundg kj11
          case measure => have := HK1.out; have := HJ11.out; omega
          case rel => exact ⟨(wrap64 (x7_1 + 1)), (x593000_1), (wrap64 (x593001_1 + 1)), (by first | rfl | (simp; done) | (simp [*]; done)), H', ⟨by have := HK1.out; have := HJ11.out; omega⟩, ⟨by (with_reducible repeat (first | apply Kd.R_alloc | apply Kd.R_drewN | apply Kd.R_drew)); exact Kd.R_mono (Kd.R_far (p := ⟨gb592, 1, none⟩) (Kd.R_types HO_5.out BK592.out (by decide)) (fun _ hk => hk.2) (.int .i64 (wrap64 (x593001_1 + 1)))) (fun _ hk => trivial)⟩, ⟨by (with_reducible repeat (first | refine blk_drewN ?_ _ | refine blk_drew ?_ | refine blk_alloc ?_ _)); refine blk_far ?_ NB587_592.out _; (with_reducible repeat (first | refine blk_drewN ?_ _ | refine blk_drew ?_ | refine blk_alloc ?_ _)); exact BK587.out⟩, ⟨by (with_reducible repeat (first | refine blk_drewN ?_ _ | refine blk_drew ?_ | refine blk_alloc ?_ _)); refine blk_put (cs := #[.int .i64 x593000_1, .int .i64 x593001_1]) ?_ 1 _ rfl; (with_reducible repeat (first | refine blk_drewN ?_ _ | refine blk_drew ?_ | refine blk_alloc ?_ _)); exact BK592.out⟩, ⟨by repeat (first | (with_reducible first | exact HB.out | apply below_alloc | apply pw_below_drewN | apply below_drew1 | refine below_set ?_ GE587.out | refine below_set ?_ GE592.out) | exact HB.out)⟩⟩
        ·rw [if_neg c18] at H
         exact absurd H (by simp)
       ·rw [if_neg c17] at H
        exact absurd H (by simp)
      ·replace c16 := Bool.eq_false_iff.mpr c16
       subst c16
       have H1 : (some (x593000_1, x593001_1)) = some (r1, r2) := by rw [if_neg (show ¬ (false = true) by decide)] at H; exact H
       clear H
       have H := H1
       clear H1
       simp only [Option.some.injEq, Prod.mk.injEq] at H
       obtain ⟨rfl, rfl⟩ := H
       have hnb26 := NB592_587.out
       have hnc26 := NB587_592.out
       have hcz27_0 : wc.cell? ⟨gb592, 0, none⟩ = some (.int .i64 x593000_1) := (blk_cell BK592.out 0).trans rfl
       have hcz27_1 : wc.cell? ⟨gb592, 1, none⟩ = some (.int .i64 x593001_1) := (blk_cell BK592.out 1).trans rfl
       have hfz27_0 := blk_frozen BK592.out 0
       have hfz27_1 := blk_frozen BK592.out 1
       have hcz28_0 : wc.cell? ⟨gb587, 0, none⟩ = some (.int .i64 0) := (blk_cell BK587.out 0).trans rfl
       have hcz28_1 : wc.cell? ⟨gb587, 1, none⟩ = some (.int .i64 0) := (blk_cell BK587.out 1).trans rfl
       have hfz28_0 := blk_frozen BK587.out 0
       have hfz28_1 := blk_frozen BK587.out 1
       go_wp2
       refine bodyPost_ret (results_cell_row rfl _ _ gb587 64 #[.int .i64 x593000_1, .int .i64 x593001_1] (0, 0) _ rfl (by (with_reducible repeat (first | refine blk_drewN ?_ _ | refine blk_drew ?_ | refine blk_alloc ?_ _)); refine blk_put (cs := #[.int .i64 x593000_1, .int .i64 0]) ?_ 1 _ rfl; (with_reducible repeat (first | refine blk_drewN ?_ _ | refine blk_drew ?_ | refine blk_alloc ?_ _)); refine blk_put (cs := #[.int .i64 0, .int .i64 0]) ?_ 0 _ rfl; (with_reducible repeat (first | refine blk_drewN ?_ _ | refine blk_drew ?_ | refine blk_alloc ?_ _)); exact BK587.out) Tryd.underlying64 rfl (by kernel_rfl)) rfl ?_
       exact ⟨by first | rfl | (simp [errW_none, errW_some] <;> rfl) | (simp [*, errW_none, errW_some] <;> rfl), by repeat (first | (with_reducible first | exact HB.out | apply below_alloc | apply pw_below_drewN | apply below_drew1 | refine below_set ?_ GE587.out | refine below_set ?_ GE592.out) | exact HB.out)⟩
 ·replace c4 := Bool.eq_false_iff.mpr c4
  subst c4
  have H1 : (some (0, 0)) = some (r1, r2) := by rw [if_neg (show ¬ (false = true) by decide)] at H; exact H
  clear H
  have H := H1
  clear H1
  simp only [Option.some.injEq, Prod.mk.injEq] at H
  obtain ⟨rfl, rfl⟩ := H
  go_enter Tryd.func34, Tryd.ntmps34
  go_wp2_with (first | ((with_reducible refine gate_dst (N := 4) rfl ?_); refine box_event ?hg (N := 4) ?hd (cs := #[.int .i64 0, .int .i64 0]) (t := 64) ?hr ?_; (case hd => rfl); (case hg => rfl); (case hr => first | (go_simp; done) | (go_simp; rfl)); intro gb587 hg w29 hbox hb; have n0_ := Aside0.mk (below_step bwA hb); have n1_ := Aside0.mk (hbox); have n2_ := Aside0.mk ((by rw [hg]; exact (below_size bwA) : w.heap.size ≤ gb587)); have n3_ := Aside0.mk ((by rw [hg]; exact (below_size bwA) : w.heap.size ≤ gb587)); clear HB; have HB := n0_; have BK587 := n1_; have GW587 := n2_; have GE587 := n3_; clear n0_ n1_ n2_ n3_; clear hb hbox hg) | ((with_reducible refine gate_callee (f := 57) rfl ?_); refine goesA (some 9) Tryd.func57 #[.string a0] ?_; (with_reducible refine (caduceusref02_Valid.calls k a0 false _ A3.out).mono ?_); rintro e w30 ⟨rfl, hb⟩; refine ⟨_, rfl, ?_⟩; have n0_ := Aside0.mk (blk_below (g := gb587) (o := .cells #[.int .i64 0, .int .i64 0] 64 (0, 0)) blkA hb); have n1_ := Aside0.mk (below_step bwA hb); clear BK587; clear HB; have BK587 := n0_; have HB := n1_; clear n0_ n1_; (try clear hb); (try clear hb2); (try clear hk); (try clear hi); have hcz31_0 : w30.cell? ⟨gb587, 0, none⟩ = some (.int .i64 0) := (blk_cell BK587.out 0).trans rfl; have hcz31_1 : w30.cell? ⟨gb587, 1, none⟩ = some (.int .i64 0) := (blk_cell BK587.out 1).trans rfl; have hfz31_0 := blk_frozen BK587.out 0; have hfz31_1 := blk_frozen BK587.out 1))
  refine bodyPost_ret (results_cell_row rfl _ _ gb587 64 #[.int .i64 0, .int .i64 0] (0, 0) _ rfl (by (with_reducible repeat (first | refine blk_drewN ?_ _ | refine blk_drew ?_ | refine blk_alloc ?_ _)); refine blk_put (cs := #[.int .i64 0, .int .i64 0]) ?_ 1 _ rfl; (with_reducible repeat (first | refine blk_drewN ?_ _ | refine blk_drew ?_ | refine blk_alloc ?_ _)); refine blk_put (cs := #[.int .i64 0, .int .i64 0]) ?_ 0 _ rfl; (with_reducible repeat (first | refine blk_drewN ?_ _ | refine blk_drew ?_ | refine blk_alloc ?_ _)); exact BK587.out) Tryd.underlying64 rfl (by kernel_rfl)) rfl ?_
  exact ⟨by first | rfl | (simp [errW_none, errW_some] <;> rfl) | (simp [*, errW_none, errW_some] <;> rfl), by repeat (first | (with_reducible first | exact HB.out | apply below_alloc | apply pw_below_drewN | apply below_drew1 | refine below_set ?_ GE587.out) | exact HB.out)⟩

/-! ### caduceuslaw07_LexPlaces: function 10 -/
def caduceuslaw07_LexPlaces.f (k : Nat) (a0 : ByteArray) (a1 : Int) : Option (Bool) := if (a0.size : Int) > 2000 then ((caduceuslaw07_awake.f k).bind fun t594 => (some t594)) else ((lex_Place.f a0 a1).bind fun bt595 => ((caduceuslaw07_awake.f k).bind fun t597 => (if t597 = true then ((caduceusref07_Find.f k a0 a1).bind fun bt598 => (some (bt595.1 == bt598.1 && (bt595.2 == bt598.2)))) else (none))))
theorem caduceuslaw07_LexPlaces.mono : ∀ a0 a1 k, LeO (caduceuslaw07_LexPlaces.f k a0 a1) (caduceuslaw07_LexPlaces.f (k + 1) a0 a1) := by
 intro a0 a1 k
 unfold caduceuslaw07_LexPlaces.f
 repeat' first
   | (with_reducible exact caduceuslaw07_awake.mono _)
   | (with_reducible exact caduceusref07_Find.mono _ _ _)
   | (with_reducible exact LeO.refl _)
   | (with_reducible exact LeO.none _)
   | (with_reducible refine LeO.ite ?_ ?_)
   | (with_reducible refine LeO.bind ?_ (fun _ => ?_))
   | exact caduceuslaw07_awake.mono _
   | exact caduceusref07_Find.mono _ _ _
   | exact LeO.none _
   | refine LeO.ite ?_ ?_
   | refine LeO.bind ?_ (fun _ => ?_)
set_option maxHeartbeats 8000000 in
set_option maxRecDepth 100000 in
theorem caduceuslaw07_LexPlaces.calls (k : Nat) (a0 : ByteArray) (a1 : Int) (r : Bool) (w : World) (hT : Tabs w) (h : caduceuslaw07_LexPlaces.f k a0 a1 = some r) :
  Calls Tryd.prog 10 #[.string a0, .int .i64 a1] w fun e w' => e = .returned (.bool r) ∧ Below w.heap.size w w' := by
 have hu64 := Tryd.underlying64
 have HB := Aside0.mk (Below.refl w.heap.size w)
 have H : (if (a0.size : Int) > 2000 then ((caduceuslaw07_awake.f k).bind fun t594 => (some t594)) else ((lex_Place.f a0 a1).bind fun bt595 => ((caduceuslaw07_awake.f k).bind fun t597 => (if t597 = true then ((caduceusref07_Find.f k a0 a1).bind fun bt598 => (some (bt595.1 == bt598.1 && (bt595.2 == bt598.2)))) else (none))))) = some r := h
 clear h
 have HT := Aside0.mk hT
 clear hT
 by_cases c3 : (a0.size : Int) > 2000
 ·rw [if_pos c3] at H
  have c3b0 : decide (2000 < (a0.size : Int)) = true := decide_eq_true c3
  have c3b1 : decide (2000 < a0.size) = true := decide_eq_true (by omega)
  clear c3
  replace H := Option.bind_eq_some_iff.mp H
  obtain ⟨t594, A40, H⟩ := H
  replace H : (some t594) = some r := H
  have A4 := Aside0.mk A40
  clear A40
  obtain rfl := Option.some.inj H
  go_enter Tryd.func10, Tryd.ntmps10
  go_wp2_with (first | ((with_reducible refine gate_callee (f := 24) rfl ?_); refine goesA (some 10) Tryd.func24 #[] ?_; (with_reducible refine (caduceuslaw07_awake.calls k  t594 _ ?side1 A4.out).mono ?_); (case side1 => exact Tabs.below HT.out bwA); rintro e w5 ⟨rfl, hb⟩; refine ⟨_, rfl, ?_⟩; have n0_ := Aside0.mk (below_step bwA hb); clear HB; have HB := n0_; clear n0_; (try clear hb); (try clear hb2); (try clear hk); (try clear hi)))
  go_ret
  exact ⟨by first | rfl | (simp [errW_none, errW_some] <;> rfl) | (simp [*, errW_none, errW_some] <;> rfl), by repeat (first | (with_reducible first | exact HB.out | apply below_alloc | apply pw_below_drewN | apply below_drew1) | exact HB.out)⟩
 ·rw [if_neg c3] at H
  have c3b0 : decide (2000 < (a0.size : Int)) = false := decide_eq_false c3
  have c3b1 : decide (2000 < a0.size) = false := decide_eq_false (by omega)
  clear c3
  replace H := Option.bind_eq_some_iff.mp H
  obtain ⟨⟨t595, t596⟩, A60, H⟩ := H
  replace H : ((caduceuslaw07_awake.f k).bind fun t597 => (if t597 = true then ((caduceusref07_Find.f k a0 a1).bind fun bt598 => (some (t595 == bt598.1 && (t596 == bt598.2)))) else (none))) = some r := H
  have A6 := Aside0.mk A60
  clear A60
  replace H := Option.bind_eq_some_iff.mp H
  obtain ⟨t597, A70, H⟩ := H
  replace H : (if t597 = true then ((caduceusref07_Find.f k a0 a1).bind fun bt598 => (some (t595 == bt598.1 && (t596 == bt598.2)))) else (none)) = some r := H
  have A7 := Aside0.mk A70
  clear A70
  by_cases c8 : t597 = true
  ·subst c8
   have H1 : ((caduceusref07_Find.f k a0 a1).bind fun bt598 => (some (t595 == bt598.1 && (t596 == bt598.2)))) = some r := by rw [if_pos rfl] at H; exact H
   clear H
   have H := H1
   clear H1
   replace H := Option.bind_eq_some_iff.mp H
   obtain ⟨⟨t598, t599⟩, A90, H⟩ := H
   replace H : (some (t595 == t598 && (t596 == t599))) = some r := H
   have A9 := Aside0.mk A90
   clear A90
   obtain rfl := Option.some.inj H
   go_enter Tryd.func10, Tryd.ntmps10
   go_wp2_with (first | ((with_reducible refine gate_callee (f := 33) rfl ?_); refine goesA (some 14) Tryd.func33 #[.string a0, .int .i64 a1] ?_; (with_reducible refine (lex_Place.calls a0 a1 t595 t596 _ ?side1 A6.out).mono ?_); (case side1 => exact Tabs.below HT.out bwA); rintro e w10 ⟨rfl, hb⟩; refine ⟨_, rfl, ?_⟩; have n0_ := Aside0.mk (below_step bwA hb); clear HB; have HB := n0_; clear n0_; (try clear hb); (try clear hb2); (try clear hk); (try clear hi)) | ((with_reducible refine gate_callee (f := 24) rfl ?_); refine goesA (some 17) Tryd.func24 #[] ?_; (with_reducible refine (caduceuslaw07_awake.calls k  true _ ?side1 A7.out).mono ?_); (case side1 => exact Tabs.below HT.out bwA); rintro e w11 ⟨rfl, hb⟩; refine ⟨_, rfl, ?_⟩; have n0_ := Aside0.mk (below_step bwA hb); clear HB; have HB := n0_; clear n0_; (try clear hb); (try clear hb2); (try clear hk); (try clear hi)) | (go_at_call 34; (with_reducible refine (caduceusref07_Find.calls k a0 a1 t598 t599 _ A9.out).mono ?_); rintro e w12 ⟨rfl, hb⟩; have n0_ := Aside0.mk (below_step bwA hb); clear HB; have HB := n0_; clear n0_; (try clear hb); (try clear hb2); (try clear hk); (try clear hi)))
   go_ret
   exact ⟨by first | rfl | (simp [errW_none, errW_some] <;> rfl) | (simp [*, errW_none, errW_some] <;> rfl), by repeat (first | (with_reducible first | exact HB.out | apply below_alloc | apply pw_below_drewN | apply below_drew1) | exact HB.out)⟩
  ·replace c8 := Bool.eq_false_iff.mpr c8
   subst c8
   have H1 : (none) = some r := by rw [if_neg (show ¬ (false = true) by decide)] at H; exact H
   clear H
   have H := H1
   clear H1
   exact absurd H (by simp)

end Go.Proofs.YtoajlmmkkcelgaaDoor.A
