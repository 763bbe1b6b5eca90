-- By drv.py, the session's own driver round the kit's print: the machine's side of the laws, function by function. Not trusted: Lean checks it.
import Derived.Test.YtoajlmmkkcelgaaDoorAx0
import Derived.Test.YtoajlmmkkcelgaaDoorAx11
import Derived.Test.YtoajlmmkkcelgaaDoorAx12
namespace Go.Proofs.YtoajlmmkkcelgaaDoor.A
open Go.RowKit Go.Proofs.YtoajlmmkkcelgaaDoorW.PrintWords Go.Proofs.YtoajlmmkkcelgaaDoorW.PrintLast Go.Proofs.YtoajlmmkkcelgaaDoorW.PrintMore
attribute [local go_sem] max2_int min2_int max_two min_two max_three min_three max_four min_four   -- for this text's walks alone
set_option linter.unusedVariables false
set_option linter.unusedSimpArgs false

/-! ### caduceusref03_text: function 46 -/
mutual
def caduceusref03_text.l0 : Nat → ByteArray → ByteArray → Int → Option (Int × Int × ByteArray × ByteArray × Int)
 | 0, _, _, _ => none
 | k + 1, x0, x3, x4 => if x4 < (x0.size : Int) then (if 0 ≤ x4 then (caduceusref03_text.j1 k x0 x3 x4 ((bt x0 x4) != 34)) else (none)) else (caduceusref03_text.j1 k x0 x3 x4 false)
def caduceusref03_text.j1 : Nat → ByteArray → ByteArray → Int → Bool → Option (Int × Int × ByteArray × ByteArray × Int)
 | 0, _, _, _, _ => none
 | k + 1, x0, x3, x4, x16 => if x16 = true then (if 0 ≤ x4 then (if x4 < (x0.size : Int) then (if (bt x0 x4) = 92 then (if x4 ≤ (x0.size : Int) then ((caduceusref03_control.f k (x0.extract (x4 : Int).toNat x0.size)).bind fun t241 => (if t241 < 0 then (some (0, 0, (⟨#[]⟩ : ByteArray), (⟨#[]⟩ : ByteArray), 3)) else ((caduceusref02_Bytes.f t241).bind fun t242 => (if x3.size + t242.size ≤ 9223372036854775807 then ((caduceusref03_escape.f k t241).bind fun t243 => (caduceusref03_text.l0 k x0 (x3 ++ t242) (wrap64 (x4 + (t243.size : Int))))) else (none))))) else (none)) else (if x4 ≤ (x0.size : Int) then ((caduceusref02_First.f k (x0.extract (x4 : Int).toNat x0.size)).bind fun bt244 => (if bt244.2 = 0 then (some (0, 0, (⟨#[]⟩ : ByteArray), (⟨#[]⟩ : ByteArray), 3)) else (if bt244.1 < 32 then (some (0, 0, (⟨#[]⟩ : ByteArray), (⟨#[]⟩ : ByteArray), 3)) else (if bt244.1 = 127 then (some (0, 0, (⟨#[]⟩ : ByteArray), (⟨#[]⟩ : ByteArray), 3)) else (if x4 ≤ (wrap64 (x4 + bt244.2)) then (if (wrap64 (x4 + bt244.2)) ≤ (x0.size : Int) then (if x3.size + (x0.extract (x4 : Int).toNat ((wrap64 (x4 + bt244.2)) : Int).toNat).size ≤ 9223372036854775807 then (caduceusref03_text.l0 k x0 (x3 ++ (x0.extract (x4 : Int).toNat ((wrap64 (x4 + bt244.2)) : Int).toNat)) (wrap64 (x4 + bt244.2))) else (none)) else (none)) else (none)))))) else (none))) else (none)) else (none)) else (if x4 ≥ (x0.size : Int) then (some (0, 0, (⟨#[]⟩ : ByteArray), (⟨#[]⟩ : ByteArray), 3)) else (if (x3.size : Int) > 200 then (some (0, 0, (⟨#[]⟩ : ByteArray), (⟨#[]⟩ : ByteArray), 2)) else (if 0 ≤ (wrap64 (x4 + 1)) then (if (wrap64 (x4 + 1)) ≤ (x0.size : Int) then (some (2, 0, x3, x0.extract ((wrap64 (x4 + 1)) : Int).toNat x0.size, 0)) else (none)) else (none))))
end
def caduceusref03_text.f (k : Nat) (a0 : ByteArray) : Option (Int × Int × ByteArray × ByteArray × Int) := caduceusref03_text.l0 k a0 (⟨#[]⟩ : ByteArray) 1
theorem caduceusref03_text.mono_l : ∀ k, (∀ y0 y1 y2, LeO (caduceusref03_text.l0 k y0 y1 y2) (caduceusref03_text.l0 (k + 1) y0 y1 y2)) ∧ (∀ y0 y1 y2 y3, LeO (caduceusref03_text.j1 k y0 y1 y2 y3) (caduceusref03_text.j1 (k + 1) y0 y1 y2 y3))
 | 0 => ⟨fun _ _ _ r h => by simp [caduceusref03_text.l0] at h, fun _ _ _ _ r h => by simp [caduceusref03_text.j1] at h⟩
 | k + 1 => by
  obtain ⟨ih0, ih1⟩ := caduceusref03_text.mono_l k
  refine ⟨?_, ?_⟩
  all_goals intros
  all_goals first | unfold caduceusref03_text.l0 | unfold caduceusref03_text.j1
  all_goals repeat' first
   | (with_reducible exact ih0 _ _ _)
   | (with_reducible exact ih1 _ _ _ _)
   | (with_reducible exact caduceusref02_First.mono _ _)
   | (with_reducible exact caduceusref03_control.mono _ _)
   | (with_reducible exact caduceusref03_escape.mono _ _)
   | (with_reducible exact LeO.refl _)
   | (with_reducible exact LeO.none _)
   | (with_reducible refine LeO.ite ?_ ?_)
   | (with_reducible refine LeO.bind ?_ (fun _ => ?_))
   | exact ih0 _ _ _
   | exact ih1 _ _ _ _
   | exact caduceusref02_First.mono _ _
   | exact caduceusref03_control.mono _ _
   | exact caduceusref03_escape.mono _ _
   | exact LeO.none _
   | refine LeO.ite ?_ ?_
   | refine LeO.bind ?_ (fun _ => ?_)
theorem caduceusref03_text.mono : ∀ a0 k, LeO (caduceusref03_text.f k a0) (caduceusref03_text.f (k + 1) a0) := by
 intro a0 k
 obtain ⟨ih0, ih1⟩ := caduceusref03_text.mono_l k
 unfold caduceusref03_text.f
 repeat' first
   | (with_reducible exact ih0 _ _ _)
   | (with_reducible exact ih1 _ _ _ _)
   | (with_reducible exact caduceusref02_First.mono _ _)
   | (with_reducible exact caduceusref03_control.mono _ _)
   | (with_reducible exact caduceusref03_escape.mono _ _)
   | (with_reducible exact LeO.refl _)
   | (with_reducible exact LeO.none _)
   | (with_reducible refine LeO.ite ?_ ?_)
   | (with_reducible refine LeO.bind ?_ (fun _ => ?_))
   | exact ih0 _ _ _
   | exact ih1 _ _ _ _
   | exact caduceusref02_First.mono _ _
   | exact caduceusref03_control.mono _ _
   | exact caduceusref03_escape.mono _ _
   | exact LeO.none _
   | refine LeO.ite ?_ ?_
   | refine LeO.bind ?_ (fun _ => ?_)
set_option maxHeartbeats 8000000 in
set_option maxRecDepth 100000 in
theorem caduceusref03_text.calls (k : Nat) (a0 : ByteArray) (r1 : Int) (r2 : Int) (r3 : ByteArray) (r4 : ByteArray) (r5 : Int) (w : World) (h : caduceusref03_text.f k a0 = some (r1, r2, r3, r4, r5)) :
  Calls Tryd.prog 46 #[.string a0] w fun e w' => e = .returned (.agg #[.int .i64 r1, .int .i64 r2, .string r3, .string r4, .int .i64 r5]) ∧ Below w.heap.size w w' := by
 have hu31 := Tryd.underlying31
 have hu103 := Tryd.underlying103
 have hu29 := Tryd.underlying29
 have HB := Aside0.mk (Below.refl w.heap.size w)
 have H : (caduceusref03_text.l0 k a0 (⟨#[]⟩ : ByteArray) 1) = some (r1, r2, r3, r4, r5) := h
 clear h
 have H' := Aside0.mk H
 clear H
 go_enter Tryd.func46, Tryd.ntmps46
 go_wp2_with (first | ((with_reducible refine gate_dst (N := 2) rfl ?_); refine box_event ?hg (N := 2) ?hd (cs := #[.int .i64 0, .int .i64 0, .string (⟨#[]⟩ : ByteArray), .string (⟨#[]⟩ : ByteArray), .int .i64 0]) (t := 31) ?hr ?_; (case hd => rfl); (case hg => rfl); (case hr => first | (go_simp; done) | (go_simp; rfl)); intro gb240 hg w2 hbox hb; have n0_ := Aside0.mk (below_step bwA hb); have n1_ := Aside0.mk (hbox); have n2_ := Aside0.mk ((by rw [hg]; exact (below_size bwA) : w.heap.size ≤ gb240)); have n3_ := Aside0.mk ((by rw [hg]; exact (below_size bwA) : w.heap.size ≤ gb240)); clear HB; have HB := n0_; have BK240 := n1_; have GW240 := n2_; have GE240 := n3_; clear n0_ n1_ n2_ n3_; clear hb hbox hg))
 go_loopg [3, 4] k (fun kq v3 v4 w' => ∃ (x3_1 : ByteArray) (x4_1 : Int) (x241000_1 : Int) (x241001_1 : Int) (x241002_1 : ByteArray) (x241003_1 : ByteArray) (x241004_1 : Int), v3 = .string x3_1 ∧ v4 = .int .i64 x4_1 ∧ Aside0 (caduceusref03_text.l0 kq a0 x3_1 x4_1 = some (r1, r2, r3, r4, r5)) ∧ Aside0 (kq ≤ k) ∧ Aside0 (w'.heap[gb240]? = some (.cells #[.int .i64 x241000_1, .int .i64 x241001_1, .string x241002_1, .string x241003_1, .int .i64 x241004_1] 31 (0, 0))) ∧ Aside0 (Below w.heap.size w w'))
 case atStart => exact ⟨((⟨#[]⟩ : ByteArray)), (1), (0), (0), ((⟨#[]⟩ : ByteArray)), ((⟨#[]⟩ : ByteArray)), (0), (by first | rfl | (simp; done) | (simp [*]; done)), (by first | rfl | (simp; done) | (simp [*]; done)), H', ⟨Nat.le_refl _⟩, ⟨by (with_reducible repeat (first | refine blk_drewN ?_ _ | refine blk_drew ?_ | refine blk_alloc ?_ _)); exact BK240.out⟩, ⟨by repeat (first | (with_reducible first | exact HB.out | apply below_alloc | apply pw_below_drewN | apply below_drew1 | refine below_set ?_ GE240.out) | exact HB.out)⟩⟩
 case round =>
  clear H'
  try clear p2
  obtain ⟨x3_1, x4_1, x241000_1, x241001_1, x241002_1, x241003_1, x241004_1, rfl, rfl, HA, HK1, BK240, HB⟩ := hrel
  cases gk with
  | zero => exact absurd HA.out (by simp [caduceusref03_text.l0])
  | succ k1 =>
   have H := HA.out
   clear HA
   simp only [caduceusref03_text.l0] at H
   have HC3 := Aside0.mk H
   clear H
   go_upto_region 3 with (fail)
   go_cut [16] (fun v16 wc => ∃ (kq : Nat) (x16_2 : Bool), v16 = .bool x16_2 ∧ Aside0 (caduceusref03_text.j1 kq a0 x3_1 x4_1 x16_2 = some (r1, r2, r3, r4, r5)) ∧ Aside0 (kq ≤ k1) ∧ Aside0 (wc.heap[gb240]? = some (.cells #[.int .i64 x241000_1, .int .i64 x241001_1, .string x241002_1, .string x241003_1, .int .i64 x241004_1] 31 (0, 0))) ∧ Aside0 (Below w.heap.size w wc))
   case first =>
    have H := HC3.out
    clear HC3
    by_cases c4 : x4_1 < (a0.size : Int)
    ·rw [if_pos c4] at H
     have c4b0 : decide (x4_1 < (a0.size : Int)) = true := decide_eq_true c4
     clear c4
     (first | rw [c4b0] | (simp only [i64_w, i32_w]; rw [c4b0]) | skip)
     by_cases c5 : 0 ≤ x4_1
     ·rw [if_pos c5] at H
      have c5b0 : decide (0 ≤ x4_1) = true := decide_eq_true c5
      clear c5
      have H' := Aside0.mk H
      clear H
      have p6 : 0 ≤ (x4_1 : Int) := of_decide_eq_true (by first | (with_reducible assumption) | assumption)
      have q6 : x4_1 < (a0.size : Int) := of_decide_eq_true (by first | (with_reducible assumption) | assumption)
      have hx6 := bt_at a0 x4_1
      replace p6 := eq_true p6
      replace q6 := eq_true q6
      go_wp2
      go_meet
      case rel => exact ⟨_, (((bt a0 x4_1) != 34)), (by first | rfl | (simp; done) | (simp [*]; done)), H', ⟨by have := HK1.out; first | omega | exact Nat.le_refl _⟩, ⟨by (with_reducible repeat (first | refine blk_drewN ?_ _ | refine blk_drew ?_ | refine blk_alloc ?_ _)); exact BK240.out⟩, ⟨by repeat (first | (with_reducible first | exact HB.out | apply below_alloc | apply pw_below_drewN | apply below_drew1 | refine below_set ?_ GE240.out) | exact HB.out)⟩⟩
     ·rw [if_neg c5] at H
      exact absurd H (by simp)
    ·rw [if_neg c4] at H
     have c4b0 : decide (x4_1 < (a0.size : Int)) = false := decide_eq_false c4
     clear c4
     (first | rw [c4b0] | (simp only [i64_w, i32_w]; rw [c4b0]) | skip)
     have H' := Aside0.mk H
     clear H
     go_wp2
     go_meet
     case rel => exact ⟨_, (false), (by first | rfl | (simp; done) | (simp [*]; done)), H', ⟨by have := HK1.out; first | omega | exact Nat.le_refl _⟩, ⟨by (with_reducible repeat (first | refine blk_drewN ?_ _ | refine blk_drew ?_ | refine blk_alloc ?_ _)); exact BK240.out⟩, ⟨by repeat (first | (with_reducible first | exact HB.out | apply below_alloc | apply pw_below_drewN | apply below_drew1 | refine below_set ?_ GE240.out) | exact HB.out)⟩⟩
   case rest =>
    clear HC3
    try clear p2
    try clear c4
    try clear c4b0
    try clear c5
    try clear c5b0
    try clear p6
    try clear q6
    try clear hx6
    try clear p2
    try clear p6
    try clear q6
    obtain ⟨kq, x16_2, rfl, HA, HJ2, BK240, HB⟩ := hcut
    cases kq with
    | zero => exact absurd HA.out (by simp [caduceusref03_text.j1])
    | succ kj2 =>
     have H := HA.out
     clear HA
     simp only [caduceusref03_text.j1] at H
     by_cases c7 : x16_2 = true
     ·subst c7
      have H1 : (if 0 ≤ x4_1 then (if x4_1 < (a0.size : Int) then (if (bt a0 x4_1) = 92 then (if x4_1 ≤ (a0.size : Int) then ((caduceusref03_control.f kj2 (a0.extract (x4_1 : Int).toNat a0.size)).bind fun t241 => (if t241 < 0 then (some (0, 0, (⟨#[]⟩ : ByteArray), (⟨#[]⟩ : ByteArray), 3)) else ((caduceusref02_Bytes.f t241).bind fun t242 => (if x3_1.size + t242.size ≤ 9223372036854775807 then ((caduceusref03_escape.f kj2 t241).bind fun t243 => (caduceusref03_text.l0 kj2 a0 (x3_1 ++ t242) (wrap64 (x4_1 + (t243.size : Int))))) else (none))))) else (none)) else (if x4_1 ≤ (a0.size : Int) then ((caduceusref02_First.f kj2 (a0.extract (x4_1 : Int).toNat a0.size)).bind fun bt244 => (if bt244.2 = 0 then (some (0, 0, (⟨#[]⟩ : ByteArray), (⟨#[]⟩ : ByteArray), 3)) else (if bt244.1 < 32 then (some (0, 0, (⟨#[]⟩ : ByteArray), (⟨#[]⟩ : ByteArray), 3)) else (if bt244.1 = 127 then (some (0, 0, (⟨#[]⟩ : ByteArray), (⟨#[]⟩ : ByteArray), 3)) else (if x4_1 ≤ (wrap64 (x4_1 + bt244.2)) then (if (wrap64 (x4_1 + bt244.2)) ≤ (a0.size : Int) then (if x3_1.size + (a0.extract (x4_1 : Int).toNat ((wrap64 (x4_1 + bt244.2)) : Int).toNat).size ≤ 9223372036854775807 then (caduceusref03_text.l0 kj2 a0 (x3_1 ++ (a0.extract (x4_1 : Int).toNat ((wrap64 (x4_1 + bt244.2)) : Int).toNat)) (wrap64 (x4_1 + bt244.2))) else (none)) else (none)) else (none)))))) else (none))) else (none)) else (none)) = some (r1, r2, r3, r4, r5) := by rw [if_pos rfl] at H; exact H
      clear H
      have H := H1
      clear H1
      by_cases c8 : 0 ≤ x4_1
      ·rw [if_pos c8] at H
       have c8b0 : decide (0 ≤ x4_1) = true := decide_eq_true c8
       clear c8
       by_cases c9 : x4_1 < (a0.size : Int)
       ·rw [if_pos c9] at H
        have c9b0 : decide (x4_1 < (a0.size : Int)) = true := decide_eq_true c9
        clear c9
        by_cases c11 : (bt a0 x4_1) = 92
        ·rw [if_pos c11] at H
         have c11b0 : ((bt a0 x4_1) == 92) = true := beq_iff_eq.mpr c11
         have c11b1 : ((bt a0 x4_1) != 92) = false := bne_eq_false_iff_eq.mpr c11
         clear c11
         have c12b0 := eq_true (of_decide_eq_true (by first | (with_reducible assumption) | assumption) : 0 ≤ x4_1)
         by_cases c13 : x4_1 ≤ (a0.size : Int)
         ·rw [if_pos c13] at H
          have c13b0 := eq_true c13
          have c13b1 : decide (x4_1 ≤ (a0.size : Int)) = true := decide_eq_true c13
          clear c13
          replace H := Option.bind_eq_some_iff.mp H
          obtain ⟨t241, A140, H⟩ := H
          replace H : (if t241 < 0 then (some (0, 0, (⟨#[]⟩ : ByteArray), (⟨#[]⟩ : ByteArray), 3)) else ((caduceusref02_Bytes.f t241).bind fun t242 => (if x3_1.size + t242.size ≤ 9223372036854775807 then ((caduceusref03_escape.f kj2 t241).bind fun t243 => (caduceusref03_text.l0 kj2 a0 (x3_1 ++ t242) (wrap64 (x4_1 + (t243.size : Int))))) else (none)))) = some (r1, r2, r3, r4, r5) := H
          have A14 := Aside0.mk A140
          clear A140
          by_cases c15 : t241 < 0
          ·rw [if_pos c15] at H
           have c15b0 : decide (t241 < 0) = true := decide_eq_true c15
           clear c15
           simp only [Option.some.injEq, Prod.mk.injEq] at H
           obtain ⟨rfl, rfl, rfl, rfl, rfl⟩ := H
           have p10 : 0 ≤ (x4_1 : Int) := of_decide_eq_true (by first | (with_reducible assumption) | assumption)
           have q10 : x4_1 < (a0.size : Int) := of_decide_eq_true (by first | (with_reducible assumption) | assumption)
           have hx10 := bt_at a0 x4_1
           replace p10 := eq_true p10
           replace q10 := eq_true q10
           go_wp2_with (first | ((with_reducible refine gate_callee (f := 84) rfl ?_); refine goesA (some 24) Tryd.func84 #[.string (a0.extract (x4_1 : Int).toNat a0.size)] ?_; (with_reducible refine (caduceusref03_control.calls kj2 (a0.extract (x4_1 : Int).toNat a0.size) t241 _ A14.out).mono ?_); rintro e w16 ⟨rfl, hb⟩; refine ⟨_, rfl, ?_⟩; have n0_ := Aside0.mk (blk_below (g := gb240) (o := .cells #[.int .i64 x241000_1, .int .i64 x241001_1, .string x241002_1, .string x241003_1, .int .i64 x241004_1] 31 (0, 0)) blkA hb); have n1_ := Aside0.mk (below_step bwA hb); clear BK240; clear HB; have BK240 := n0_; have HB := n1_; clear n0_ n1_; (try clear hb); (try clear hb2); (try clear hk); (try clear hi); have hcz17_0 : w16.cell? ⟨gb240, 0, none⟩ = some (.int .i64 x241000_1) := (blk_cell BK240.out 0).trans rfl; have hcz17_1 : w16.cell? ⟨gb240, 1, none⟩ = some (.int .i64 x241001_1) := (blk_cell BK240.out 1).trans rfl; have hcz17_2 : w16.cell? ⟨gb240, 2, none⟩ = some (.string x241002_1) := (blk_cell BK240.out 2).trans rfl; have hcz17_3 : w16.cell? ⟨gb240, 3, none⟩ = some (.string x241003_1) := (blk_cell BK240.out 3).trans rfl; have hcz17_4 : w16.cell? ⟨gb240, 4, none⟩ = some (.int .i64 x241004_1) := (blk_cell BK240.out 4).trans rfl; have hfz17_0 := blk_frozen BK240.out 0; have hfz17_1 := blk_frozen BK240.out 1; have hfz17_2 := blk_frozen BK240.out 2; have hfz17_3 := blk_frozen BK240.out 3; have hfz17_4 := blk_frozen BK240.out 4))
           refine bodyPost_ret (results_cell_row rfl _ _ gb240 31 #[.int .i64 0, .int .i64 0, .string (⟨#[]⟩ : ByteArray), .string (⟨#[]⟩ : ByteArray), .int .i64 3] (0, 0) _ rfl (by (with_reducible repeat (first | refine blk_drewN ?_ _ | refine blk_drew ?_ | refine blk_alloc ?_ _)); refine blk_put (cs := #[.int .i64 0, .int .i64 0, .string (⟨#[]⟩ : ByteArray), .string (⟨#[]⟩ : ByteArray), .int .i64 x241004_1]) ?_ 4 _ rfl; (with_reducible repeat (first | refine blk_drewN ?_ _ | refine blk_drew ?_ | refine blk_alloc ?_ _)); refine blk_put (cs := #[.int .i64 0, .int .i64 0, .string (⟨#[]⟩ : ByteArray), .string x241003_1, .int .i64 x241004_1]) ?_ 3 _ rfl; (with_reducible repeat (first | refine blk_drewN ?_ _ | refine blk_drew ?_ | refine blk_alloc ?_ _)); refine blk_put (cs := #[.int .i64 0, .int .i64 0, .string x241002_1, .string x241003_1, .int .i64 x241004_1]) ?_ 2 _ rfl; (with_reducible repeat (first | refine blk_drewN ?_ _ | refine blk_drew ?_ | refine blk_alloc ?_ _)); refine blk_put (cs := #[.int .i64 0, .int .i64 x241001_1, .string x241002_1, .string x241003_1, .int .i64 x241004_1]) ?_ 1 _ rfl; (with_reducible repeat (first | refine blk_drewN ?_ _ | refine blk_drew ?_ | refine blk_alloc ?_ _)); refine blk_put (cs := #[.int .i64 x241000_1, .int .i64 x241001_1, .string x241002_1, .string x241003_1, .int .i64 x241004_1]) ?_ 0 _ rfl; (with_reducible repeat (first | refine blk_drewN ?_ _ | refine blk_drew ?_ | refine blk_alloc ?_ _)); exact BK240.out) Tryd.underlying31 rfl (by kernel_rfl)) rfl ?_
           exact ⟨by first | rfl | (simp [errW_none, errW_some] <;> rfl) | (simp [*, errW_none, errW_some] <;> rfl), by repeat (first | (with_reducible first | exact HB.out | apply below_alloc | apply pw_below_drewN | apply below_drew1 | refine below_set ?_ GE240.out) | exact HB.out)⟩
          ·rw [if_neg c15] at H
           have c15b0 : decide (t241 < 0) = false := decide_eq_false c15
           clear c15
           replace H := Option.bind_eq_some_iff.mp H
           obtain ⟨t242, A180, H⟩ := H
           replace H : (if x3_1.size + t242.size ≤ 9223372036854775807 then ((caduceusref03_escape.f kj2 t241).bind fun t243 => (caduceusref03_text.l0 kj2 a0 (x3_1 ++ t242) (wrap64 (x4_1 + (t243.size : Int))))) else (none)) = some (r1, r2, r3, r4, r5) := H
           have A18 := Aside0.mk A180
           clear A180
           by_cases c19 : x3_1.size + t242.size ≤ 9223372036854775807
           ·rw [if_pos c19] at H
            have c19b0 := eq_true c19
            have c19b1 : decide (x3_1.size + t242.size ≤ 9223372036854775807) = true := decide_eq_true c19
            try have c19b2 : (9223372036854775807 < x3_1.size + t242.size) = False := eq_false (Nat.not_lt.2 c19)
            replace H := Option.bind_eq_some_iff.mp H
            obtain ⟨t243, A200, H⟩ := H
            replace H : (caduceusref03_text.l0 kj2 a0 (x3_1 ++ t242) (wrap64 (x4_1 + (t243.size : Int)))) = some (r1, r2, r3, r4, r5) := H
            have A20 := Aside0.mk A200
            clear A200
            have H' := Aside0.mk H
            clear H
            have p10 : 0 ≤ (x4_1 : Int) := of_decide_eq_true (by first | (with_reducible assumption) | assumption)
            have q10 : x4_1 < (a0.size : Int) := of_decide_eq_true (by first | (with_reducible assumption) | assumption)
            have hx10 := bt_at a0 x4_1
            replace p10 := eq_true p10
            replace q10 := eq_true q10
            go_wp2_with (first | ((with_reducible refine gate_callee (f := 84) rfl ?_); refine goesA (some 24) Tryd.func84 #[.string (a0.extract (x4_1 : Int).toNat a0.size)] ?_; (with_reducible refine (caduceusref03_control.calls kj2 (a0.extract (x4_1 : Int).toNat a0.size) t241 _ A14.out).mono ?_); rintro e w21 ⟨rfl, hb⟩; refine ⟨_, rfl, ?_⟩; have n0_ := Aside0.mk (blk_below (g := gb240) (o := .cells #[.int .i64 x241000_1, .int .i64 x241001_1, .string x241002_1, .string x241003_1, .int .i64 x241004_1] 31 (0, 0)) blkA hb); have n1_ := Aside0.mk (below_step bwA hb); clear BK240; clear HB; have BK240 := n0_; have HB := n1_; clear n0_ n1_; (try clear hb); (try clear hb2); (try clear hk); (try clear hi)) | ((with_reducible refine gate_callee (f := 85) rfl ?_); refine goesA (some 30) Tryd.func85 #[.int .i64 t241] ?_; (with_reducible refine (caduceusref02_Bytes.calls t241 t242 _ A18.out).mono ?_); rintro e w22 ⟨rfl, hb⟩; refine ⟨_, rfl, ?_⟩; have n0_ := Aside0.mk (blk_below (g := gb240) (o := .cells #[.int .i64 x241000_1, .int .i64 x241001_1, .string x241002_1, .string x241003_1, .int .i64 x241004_1] 31 (0, 0)) blkA hb); have n1_ := Aside0.mk (below_step bwA hb); clear BK240; clear HB; have BK240 := n0_; have HB := n1_; clear n0_ n1_; (try clear hb); (try clear hb2); (try clear hk); (try clear hi)) | ((with_reducible refine gate_callee (f := 86) rfl ?_); refine goesA (some 34) Tryd.func86 #[.int .i64 t241] ?_; (with_reducible refine (caduceusref03_escape.calls kj2 t241 t243 _ A20.out).mono ?_); rintro e w23 ⟨rfl, hb⟩; refine ⟨_, rfl, ?_⟩; have n0_ := Aside0.mk (blk_below (g := gb240) (o := .cells #[.int .i64 x241000_1, .int .i64 x241001_1, .string x241002_1, .string x241003_1, .int .i64 x241004_1] 31 (0, 0)) blkA hb); have n1_ := Aside0.mk (below_step bwA hb); clear BK240; clear HB; have BK240 := n0_; have HB := n1_; clear n0_ n1_; (try clear hb); (try clear hb2); (try clear hk); (try clear hi)))
            go_roundg kj2
            case measure => have := HK1.out; have := HJ2.out; omega
            case rel => exact ⟨(x3_1 ++ t242), (wrap64 (x4_1 + (t243.size : Int))), (x241000_1), (x241001_1), (x241002_1), (x241003_1), (x241004_1), (by first | rfl | (simp; done) | (simp [*]; done)), (by first | rfl | (simp; done) | (simp [*]; done)), H', ⟨by have := HK1.out; have := HJ2.out; omega⟩, ⟨by (with_reducible repeat (first | refine blk_drewN ?_ _ | refine blk_drew ?_ | refine blk_alloc ?_ _)); exact BK240.out⟩, ⟨by repeat (first | (with_reducible first | exact HB.out | apply below_alloc | apply pw_below_drewN | apply below_drew1 | refine below_set ?_ GE240.out) | exact HB.out)⟩⟩
           ·rw [if_neg c19] at H
            exact absurd H (by simp)
         ·rw [if_neg c13] at H
          exact absurd H (by simp)
        ·rw [if_neg c11] at H
         have c11b0 : ((bt a0 x4_1) == 92) = false := beq_eq_false_iff_ne.mpr c11
         have c11b1 : ((bt a0 x4_1) != 92) = true := bne_iff_ne.mpr c11
         have c24b0 := eq_true (of_decide_eq_true (by first | (with_reducible assumption) | assumption) : 0 ≤ x4_1)
         by_cases c25 : x4_1 ≤ (a0.size : Int)
         ·rw [if_pos c25] at H
          have c25b0 := eq_true c25
          have c25b1 : decide (x4_1 ≤ (a0.size : Int)) = true := decide_eq_true c25
          clear c25
          replace H := Option.bind_eq_some_iff.mp H
          obtain ⟨⟨t244, t245⟩, A260, H⟩ := H
          replace H : (if t245 = 0 then (some (0, 0, (⟨#[]⟩ : ByteArray), (⟨#[]⟩ : ByteArray), 3)) else (if t244 < 32 then (some (0, 0, (⟨#[]⟩ : ByteArray), (⟨#[]⟩ : ByteArray), 3)) else (if t244 = 127 then (some (0, 0, (⟨#[]⟩ : ByteArray), (⟨#[]⟩ : ByteArray), 3)) else (if x4_1 ≤ (wrap64 (x4_1 + t245)) then (if (wrap64 (x4_1 + t245)) ≤ (a0.size : Int) then (if x3_1.size + (a0.extract (x4_1 : Int).toNat ((wrap64 (x4_1 + t245)) : Int).toNat).size ≤ 9223372036854775807 then (caduceusref03_text.l0 kj2 a0 (x3_1 ++ (a0.extract (x4_1 : Int).toNat ((wrap64 (x4_1 + t245)) : Int).toNat)) (wrap64 (x4_1 + t245))) else (none)) else (none)) else (none))))) = some (r1, r2, r3, r4, r5) := H
          have A26 := Aside0.mk A260
          clear A260
          by_cases c27 : t245 = 0
          ·rw [if_pos c27] at H
           have c27b0 : (t245 == 0) = true := beq_iff_eq.mpr c27
           have c27b1 : (t245 != 0) = false := bne_eq_false_iff_eq.mpr c27
           clear c27
           simp only [Option.some.injEq, Prod.mk.injEq] at H
           obtain ⟨rfl, rfl, rfl, rfl, rfl⟩ := H
           have p10 : 0 ≤ (x4_1 : Int) := of_decide_eq_true (by first | (with_reducible assumption) | assumption)
           have q10 : x4_1 < (a0.size : Int) := of_decide_eq_true (by first | (with_reducible assumption) | assumption)
           have hx10 := bt_at a0 x4_1
           replace p10 := eq_true p10
           replace q10 := eq_true q10
           go_wp2_with (first | ((with_reducible refine gate_callee (f := 67) rfl ?_); refine goesA (some 40) Tryd.func67 #[.string (a0.extract (x4_1 : Int).toNat a0.size)] ?_; (with_reducible refine (caduceusref02_First.calls kj2 (a0.extract (x4_1 : Int).toNat a0.size) t244 t245 _ A26.out).mono ?_); rintro e w28 ⟨rfl, hb⟩; refine ⟨_, rfl, ?_⟩; have n0_ := Aside0.mk (blk_below (g := gb240) (o := .cells #[.int .i64 x241000_1, .int .i64 x241001_1, .string x241002_1, .string x241003_1, .int .i64 x241004_1] 31 (0, 0)) blkA hb); have n1_ := Aside0.mk (below_step bwA hb); clear BK240; clear HB; have BK240 := n0_; have HB := n1_; clear n0_ n1_; (try clear hb); (try clear hb2); (try clear hk); (try clear hi)) | ((with_reducible refine gate_dst (N := 6) rfl ?_); refine box_event ?hg (N := 6) ?hd (cs := #[.int .i64 0, .int .i64 0]) (t := 103) ?hr ?_; (case hd => rfl); (case hg => rfl); (case hr => first | (go_simp; done) | (go_simp; rfl)); intro gb246 hg w29 hbox hb; have n0_ := Aside0.mk (blk_below (g := gb240) (o := .cells #[.int .i64 x241000_1, .int .i64 x241001_1, .string x241002_1, .string x241003_1, .int .i64 x241004_1] 31 (0, 0)) blkA hb); have n1_ := Aside0.mk (below_step bwA hb); have n2_ := Aside0.mk (hbox); have n3_ := Aside0.mk ((by rw [hg]; exact (below_size bwA) : w.heap.size ≤ gb246)); have n4_ := Aside0.mk ((by rw [hg]; exact (below_size bwA) : w.heap.size ≤ gb246)); have n5_ := Aside0.mk ((by rw [hg]; exact Nat.ne_of_lt (blk_lt (g := gb240) (o := .cells #[.int .i64 x241000_1, .int .i64 x241001_1, .string x241002_1, .string x241003_1, .int .i64 x241004_1] 31 (0, 0)) blkA) : gb240 ≠ gb246)); have n6_ := Aside0.mk ((by rw [hg]; exact Nat.ne_of_gt (blk_lt (g := gb240) (o := .cells #[.int .i64 x241000_1, .int .i64 x241001_1, .string x241002_1, .string x241003_1, .int .i64 x241004_1] 31 (0, 0)) blkA) : gb246 ≠ gb240)); clear BK240; clear HB; have BK240 := n0_; have HB := n1_; have BK246 := n2_; have GW246 := n3_; have GE246 := n4_; have NB240_246 := n5_; have NB246_240 := n6_; clear n0_ n1_ n2_ n3_ n4_ n5_ n6_; clear hb hbox hg; have hnb30 := NB246_240.out; have hnc30 := NB240_246.out; have hcz31_0 : w29.cell? ⟨gb246, 0, none⟩ = some (.int .i64 0) := (blk_cell BK246.out 0).trans rfl; have hcz31_1 : w29.cell? ⟨gb246, 1, none⟩ = some (.int .i64 0) := (blk_cell BK246.out 1).trans rfl; have hfz31_0 := blk_frozen BK246.out 0; have hfz31_1 := blk_frozen BK246.out 1; have hcz32_0 : w29.cell? ⟨gb240, 0, none⟩ = some (.int .i64 x241000_1) := (blk_cell BK240.out 0).trans rfl; have hcz32_1 : w29.cell? ⟨gb240, 1, none⟩ = some (.int .i64 x241001_1) := (blk_cell BK240.out 1).trans rfl; have hcz32_2 : w29.cell? ⟨gb240, 2, none⟩ = some (.string x241002_1) := (blk_cell BK240.out 2).trans rfl; have hcz32_3 : w29.cell? ⟨gb240, 3, none⟩ = some (.string x241003_1) := (blk_cell BK240.out 3).trans rfl; have hcz32_4 : w29.cell? ⟨gb240, 4, none⟩ = some (.int .i64 x241004_1) := (blk_cell BK240.out 4).trans rfl; have hfz32_0 := blk_frozen BK240.out 0; have hfz32_1 := blk_frozen BK240.out 1; have hfz32_2 := blk_frozen BK240.out 2; have hfz32_3 := blk_frozen BK240.out 3; have hfz32_4 := blk_frozen BK240.out 4))
           refine bodyPost_ret (results_cell_row rfl _ _ gb240 31 #[.int .i64 0, .int .i64 0, .string (⟨#[]⟩ : ByteArray), .string (⟨#[]⟩ : ByteArray), .int .i64 3] (0, 0) _ rfl (by (with_reducible repeat (first | refine blk_drewN ?_ _ | refine blk_drew ?_ | refine blk_alloc ?_ _)); refine blk_put (cs := #[.int .i64 0, .int .i64 0, .string (⟨#[]⟩ : ByteArray), .string (⟨#[]⟩ : ByteArray), .int .i64 x241004_1]) ?_ 4 _ rfl; (with_reducible repeat (first | refine blk_drewN ?_ _ | refine blk_drew ?_ | refine blk_alloc ?_ _)); refine blk_put (cs := #[.int .i64 0, .int .i64 0, .string (⟨#[]⟩ : ByteArray), .string x241003_1, .int .i64 x241004_1]) ?_ 3 _ rfl; (with_reducible repeat (first | refine blk_drewN ?_ _ | refine blk_drew ?_ | refine blk_alloc ?_ _)); refine blk_put (cs := #[.int .i64 0, .int .i64 0, .string x241002_1, .string x241003_1, .int .i64 x241004_1]) ?_ 2 _ rfl; (with_reducible repeat (first | refine blk_drewN ?_ _ | refine blk_drew ?_ | refine blk_alloc ?_ _)); refine blk_put (cs := #[.int .i64 0, .int .i64 x241001_1, .string x241002_1, .string x241003_1, .int .i64 x241004_1]) ?_ 1 _ rfl; (with_reducible repeat (first | refine blk_drewN ?_ _ | refine blk_drew ?_ | refine blk_alloc ?_ _)); refine blk_put (cs := #[.int .i64 x241000_1, .int .i64 x241001_1, .string x241002_1, .string x241003_1, .int .i64 x241004_1]) ?_ 0 _ rfl; (with_reducible repeat (first | refine blk_drewN ?_ _ | refine blk_drew ?_ | refine blk_alloc ?_ _)); refine blk_far ?_ NB240_246.out _; (with_reducible repeat (first | refine blk_drewN ?_ _ | refine blk_drew ?_ | refine blk_alloc ?_ _)); refine blk_far ?_ NB240_246.out _; (with_reducible repeat (first | refine blk_drewN ?_ _ | refine blk_drew ?_ | refine blk_alloc ?_ _)); exact BK240.out) Tryd.underlying31 rfl (by kernel_rfl)) rfl ?_
           exact ⟨by first | rfl | (simp [errW_none, errW_some] <;> rfl) | (simp [*, errW_none, errW_some] <;> rfl), by repeat (first | (with_reducible first | exact HB.out | apply below_alloc | apply pw_below_drewN | apply below_drew1 | refine below_set ?_ GE240.out | refine below_set ?_ GE246.out) | exact HB.out)⟩
          ·rw [if_neg c27] at H
           have c27b0 : (t245 == 0) = false := beq_eq_false_iff_ne.mpr c27
           have c27b1 : (t245 != 0) = true := bne_iff_ne.mpr c27
           by_cases c33 : t244 < 32
           ·rw [if_pos c33] at H
            have c33b0 : decide (t244 < 32) = true := decide_eq_true c33
            clear c33
            simp only [Option.some.injEq, Prod.mk.injEq] at H
            obtain ⟨rfl, rfl, rfl, rfl, rfl⟩ := H
            have p10 : 0 ≤ (x4_1 : Int) := of_decide_eq_true (by first | (with_reducible assumption) | assumption)
            have q10 : x4_1 < (a0.size : Int) := of_decide_eq_true (by first | (with_reducible assumption) | assumption)
            have hx10 := bt_at a0 x4_1
            replace p10 := eq_true p10
            replace q10 := eq_true q10
            go_wp2_with (first | ((with_reducible refine gate_callee (f := 67) rfl ?_); refine goesA (some 40) Tryd.func67 #[.string (a0.extract (x4_1 : Int).toNat a0.size)] ?_; (with_reducible refine (caduceusref02_First.calls kj2 (a0.extract (x4_1 : Int).toNat a0.size) t244 t245 _ A26.out).mono ?_); rintro e w34 ⟨rfl, hb⟩; refine ⟨_, rfl, ?_⟩; have n0_ := Aside0.mk (blk_below (g := gb240) (o := .cells #[.int .i64 x241000_1, .int .i64 x241001_1, .string x241002_1, .string x241003_1, .int .i64 x241004_1] 31 (0, 0)) blkA hb); have n1_ := Aside0.mk (below_step bwA hb); clear BK240; clear HB; have BK240 := n0_; have HB := n1_; clear n0_ n1_; (try clear hb); (try clear hb2); (try clear hk); (try clear hi)) | ((with_reducible refine gate_dst (N := 6) rfl ?_); refine box_event ?hg (N := 6) ?hd (cs := #[.int .i64 0, .int .i64 0]) (t := 103) ?hr ?_; (case hd => rfl); (case hg => rfl); (case hr => first | (go_simp; done) | (go_simp; rfl)); intro gb246 hg w35 hbox hb; have n0_ := Aside0.mk (blk_below (g := gb240) (o := .cells #[.int .i64 x241000_1, .int .i64 x241001_1, .string x241002_1, .string x241003_1, .int .i64 x241004_1] 31 (0, 0)) blkA hb); have n1_ := Aside0.mk (below_step bwA hb); have n2_ := Aside0.mk (hbox); have n3_ := Aside0.mk ((by rw [hg]; exact (below_size bwA) : w.heap.size ≤ gb246)); have n4_ := Aside0.mk ((by rw [hg]; exact (below_size bwA) : w.heap.size ≤ gb246)); have n5_ := Aside0.mk ((by rw [hg]; exact Nat.ne_of_lt (blk_lt (g := gb240) (o := .cells #[.int .i64 x241000_1, .int .i64 x241001_1, .string x241002_1, .string x241003_1, .int .i64 x241004_1] 31 (0, 0)) blkA) : gb240 ≠ gb246)); have n6_ := Aside0.mk ((by rw [hg]; exact Nat.ne_of_gt (blk_lt (g := gb240) (o := .cells #[.int .i64 x241000_1, .int .i64 x241001_1, .string x241002_1, .string x241003_1, .int .i64 x241004_1] 31 (0, 0)) blkA) : gb246 ≠ gb240)); clear BK240; clear HB; have BK240 := n0_; have HB := n1_; have BK246 := n2_; have GW246 := n3_; have GE246 := n4_; have NB240_246 := n5_; have NB246_240 := n6_; clear n0_ n1_ n2_ n3_ n4_ n5_ n6_; clear hb hbox hg; have hnb36 := NB246_240.out; have hnc36 := NB240_246.out; have hcz37_0 : w35.cell? ⟨gb246, 0, none⟩ = some (.int .i64 0) := (blk_cell BK246.out 0).trans rfl; have hcz37_1 : w35.cell? ⟨gb246, 1, none⟩ = some (.int .i64 0) := (blk_cell BK246.out 1).trans rfl; have hfz37_0 := blk_frozen BK246.out 0; have hfz37_1 := blk_frozen BK246.out 1; have hcz38_0 : w35.cell? ⟨gb240, 0, none⟩ = some (.int .i64 x241000_1) := (blk_cell BK240.out 0).trans rfl; have hcz38_1 : w35.cell? ⟨gb240, 1, none⟩ = some (.int .i64 x241001_1) := (blk_cell BK240.out 1).trans rfl; have hcz38_2 : w35.cell? ⟨gb240, 2, none⟩ = some (.string x241002_1) := (blk_cell BK240.out 2).trans rfl; have hcz38_3 : w35.cell? ⟨gb240, 3, none⟩ = some (.string x241003_1) := (blk_cell BK240.out 3).trans rfl; have hcz38_4 : w35.cell? ⟨gb240, 4, none⟩ = some (.int .i64 x241004_1) := (blk_cell BK240.out 4).trans rfl; have hfz38_0 := blk_frozen BK240.out 0; have hfz38_1 := blk_frozen BK240.out 1; have hfz38_2 := blk_frozen BK240.out 2; have hfz38_3 := blk_frozen BK240.out 3; have hfz38_4 := blk_frozen BK240.out 4))
            refine bodyPost_ret (results_cell_row rfl _ _ gb240 31 #[.int .i64 0, .int .i64 0, .string (⟨#[]⟩ : ByteArray), .string (⟨#[]⟩ : ByteArray), .int .i64 3] (0, 0) _ rfl (by (with_reducible repeat (first | refine blk_drewN ?_ _ | refine blk_drew ?_ | refine blk_alloc ?_ _)); refine blk_put (cs := #[.int .i64 0, .int .i64 0, .string (⟨#[]⟩ : ByteArray), .string (⟨#[]⟩ : ByteArray), .int .i64 x241004_1]) ?_ 4 _ rfl; (with_reducible repeat (first | refine blk_drewN ?_ _ | refine blk_drew ?_ | refine blk_alloc ?_ _)); refine blk_put (cs := #[.int .i64 0, .int .i64 0, .string (⟨#[]⟩ : ByteArray), .string x241003_1, .int .i64 x241004_1]) ?_ 3 _ rfl; (with_reducible repeat (first | refine blk_drewN ?_ _ | refine blk_drew ?_ | refine blk_alloc ?_ _)); refine blk_put (cs := #[.int .i64 0, .int .i64 0, .string x241002_1, .string x241003_1, .int .i64 x241004_1]) ?_ 2 _ rfl; (with_reducible repeat (first | refine blk_drewN ?_ _ | refine blk_drew ?_ | refine blk_alloc ?_ _)); refine blk_put (cs := #[.int .i64 0, .int .i64 x241001_1, .string x241002_1, .string x241003_1, .int .i64 x241004_1]) ?_ 1 _ rfl; (with_reducible repeat (first | refine blk_drewN ?_ _ | refine blk_drew ?_ | refine blk_alloc ?_ _)); refine blk_put (cs := #[.int .i64 x241000_1, .int .i64 x241001_1, .string x241002_1, .string x241003_1, .int .i64 x241004_1]) ?_ 0 _ rfl; (with_reducible repeat (first | refine blk_drewN ?_ _ | refine blk_drew ?_ | refine blk_alloc ?_ _)); refine blk_far ?_ NB240_246.out _; (with_reducible repeat (first | refine blk_drewN ?_ _ | refine blk_drew ?_ | refine blk_alloc ?_ _)); refine blk_far ?_ NB240_246.out _; (with_reducible repeat (first | refine blk_drewN ?_ _ | refine blk_drew ?_ | refine blk_alloc ?_ _)); exact BK240.out) Tryd.underlying31 rfl (by kernel_rfl)) rfl ?_
            exact ⟨by first | rfl | (simp [errW_none, errW_some] <;> rfl) | (simp [*, errW_none, errW_some] <;> rfl), by repeat (first | (with_reducible first | exact HB.out | apply below_alloc | apply pw_below_drewN | apply below_drew1 | refine below_set ?_ GE240.out | refine below_set ?_ GE246.out) | exact HB.out)⟩
           ·rw [if_neg c33] at H
            have c33b0 : decide (t244 < 32) = false := decide_eq_false c33
            clear c33
            by_cases c39 : t244 = 127
            ·rw [if_pos c39] at H
             have c39b0 : (t244 == 127) = true := beq_iff_eq.mpr c39
             have c39b1 : (t244 != 127) = false := bne_eq_false_iff_eq.mpr c39
             clear c39
             simp only [Option.some.injEq, Prod.mk.injEq] at H
             obtain ⟨rfl, rfl, rfl, rfl, rfl⟩ := H
             have p10 : 0 ≤ (x4_1 : Int) := of_decide_eq_true (by first | (with_reducible assumption) | assumption)
             have q10 : x4_1 < (a0.size : Int) := of_decide_eq_true (by first | (with_reducible assumption) | assumption)
             have hx10 := bt_at a0 x4_1
             replace p10 := eq_true p10
             replace q10 := eq_true q10
             go_wp2_with (first | ((with_reducible refine gate_callee (f := 67) rfl ?_); refine goesA (some 40) Tryd.func67 #[.string (a0.extract (x4_1 : Int).toNat a0.size)] ?_; (with_reducible refine (caduceusref02_First.calls kj2 (a0.extract (x4_1 : Int).toNat a0.size) t244 t245 _ A26.out).mono ?_); rintro e w40 ⟨rfl, hb⟩; refine ⟨_, rfl, ?_⟩; have n0_ := Aside0.mk (blk_below (g := gb240) (o := .cells #[.int .i64 x241000_1, .int .i64 x241001_1, .string x241002_1, .string x241003_1, .int .i64 x241004_1] 31 (0, 0)) blkA hb); have n1_ := Aside0.mk (below_step bwA hb); clear BK240; clear HB; have BK240 := n0_; have HB := n1_; clear n0_ n1_; (try clear hb); (try clear hb2); (try clear hk); (try clear hi)) | ((with_reducible refine gate_dst (N := 6) rfl ?_); refine box_event ?hg (N := 6) ?hd (cs := #[.int .i64 0, .int .i64 0]) (t := 103) ?hr ?_; (case hd => rfl); (case hg => rfl); (case hr => first | (go_simp; done) | (go_simp; rfl)); intro gb246 hg w41 hbox hb; have n0_ := Aside0.mk (blk_below (g := gb240) (o := .cells #[.int .i64 x241000_1, .int .i64 x241001_1, .string x241002_1, .string x241003_1, .int .i64 x241004_1] 31 (0, 0)) blkA hb); have n1_ := Aside0.mk (below_step bwA hb); have n2_ := Aside0.mk (hbox); have n3_ := Aside0.mk ((by rw [hg]; exact (below_size bwA) : w.heap.size ≤ gb246)); have n4_ := Aside0.mk ((by rw [hg]; exact (below_size bwA) : w.heap.size ≤ gb246)); have n5_ := Aside0.mk ((by rw [hg]; exact Nat.ne_of_lt (blk_lt (g := gb240) (o := .cells #[.int .i64 x241000_1, .int .i64 x241001_1, .string x241002_1, .string x241003_1, .int .i64 x241004_1] 31 (0, 0)) blkA) : gb240 ≠ gb246)); have n6_ := Aside0.mk ((by rw [hg]; exact Nat.ne_of_gt (blk_lt (g := gb240) (o := .cells #[.int .i64 x241000_1, .int .i64 x241001_1, .string x241002_1, .string x241003_1, .int .i64 x241004_1] 31 (0, 0)) blkA) : gb246 ≠ gb240)); clear BK240; clear HB; have BK240 := n0_; have HB := n1_; have BK246 := n2_; have GW246 := n3_; have GE246 := n4_; have NB240_246 := n5_; have NB246_240 := n6_; clear n0_ n1_ n2_ n3_ n4_ n5_ n6_; clear hb hbox hg; have hnb42 := NB246_240.out; have hnc42 := NB240_246.out; have hcz43_0 : w41.cell? ⟨gb246, 0, none⟩ = some (.int .i64 0) := (blk_cell BK246.out 0).trans rfl; have hcz43_1 : w41.cell? ⟨gb246, 1, none⟩ = some (.int .i64 0) := (blk_cell BK246.out 1).trans rfl; have hfz43_0 := blk_frozen BK246.out 0; have hfz43_1 := blk_frozen BK246.out 1; have hcz44_0 : w41.cell? ⟨gb240, 0, none⟩ = some (.int .i64 x241000_1) := (blk_cell BK240.out 0).trans rfl; have hcz44_1 : w41.cell? ⟨gb240, 1, none⟩ = some (.int .i64 x241001_1) := (blk_cell BK240.out 1).trans rfl; have hcz44_2 : w41.cell? ⟨gb240, 2, none⟩ = some (.string x241002_1) := (blk_cell BK240.out 2).trans rfl; have hcz44_3 : w41.cell? ⟨gb240, 3, none⟩ = some (.string x241003_1) := (blk_cell BK240.out 3).trans rfl; have hcz44_4 : w41.cell? ⟨gb240, 4, none⟩ = some (.int .i64 x241004_1) := (blk_cell BK240.out 4).trans rfl; have hfz44_0 := blk_frozen BK240.out 0; have hfz44_1 := blk_frozen BK240.out 1; have hfz44_2 := blk_frozen BK240.out 2; have hfz44_3 := blk_frozen BK240.out 3; have hfz44_4 := blk_frozen BK240.out 4))
             refine bodyPost_ret (results_cell_row rfl _ _ gb240 31 #[.int .i64 0, .int .i64 0, .string (⟨#[]⟩ : ByteArray), .string (⟨#[]⟩ : ByteArray), .int .i64 3] (0, 0) _ rfl (by (with_reducible repeat (first | refine blk_drewN ?_ _ | refine blk_drew ?_ | refine blk_alloc ?_ _)); refine blk_put (cs := #[.int .i64 0, .int .i64 0, .string (⟨#[]⟩ : ByteArray), .string (⟨#[]⟩ : ByteArray), .int .i64 x241004_1]) ?_ 4 _ rfl; (with_reducible repeat (first | refine blk_drewN ?_ _ | refine blk_drew ?_ | refine blk_alloc ?_ _)); refine blk_put (cs := #[.int .i64 0, .int .i64 0, .string (⟨#[]⟩ : ByteArray), .string x241003_1, .int .i64 x241004_1]) ?_ 3 _ rfl; (with_reducible repeat (first | refine blk_drewN ?_ _ | refine blk_drew ?_ | refine blk_alloc ?_ _)); refine blk_put (cs := #[.int .i64 0, .int .i64 0, .string x241002_1, .string x241003_1, .int .i64 x241004_1]) ?_ 2 _ rfl; (with_reducible repeat (first | refine blk_drewN ?_ _ | refine blk_drew ?_ | refine blk_alloc ?_ _)); refine blk_put (cs := #[.int .i64 0, .int .i64 x241001_1, .string x241002_1, .string x241003_1, .int .i64 x241004_1]) ?_ 1 _ rfl; (with_reducible repeat (first | refine blk_drewN ?_ _ | refine blk_drew ?_ | refine blk_alloc ?_ _)); refine blk_put (cs := #[.int .i64 x241000_1, .int .i64 x241001_1, .string x241002_1, .string x241003_1, .int .i64 x241004_1]) ?_ 0 _ rfl; (with_reducible repeat (first | refine blk_drewN ?_ _ | refine blk_drew ?_ | refine blk_alloc ?_ _)); refine blk_far ?_ NB240_246.out _; (with_reducible repeat (first | refine blk_drewN ?_ _ | refine blk_drew ?_ | refine blk_alloc ?_ _)); refine blk_far ?_ NB240_246.out _; (with_reducible repeat (first | refine blk_drewN ?_ _ | refine blk_drew ?_ | refine blk_alloc ?_ _)); exact BK240.out) Tryd.underlying31 rfl (by kernel_rfl)) rfl ?_
             exact ⟨by first | rfl | (simp [errW_none, errW_some] <;> rfl) | (simp [*, errW_none, errW_some] <;> rfl), by repeat (first | (with_reducible first | exact HB.out | apply below_alloc | apply pw_below_drewN | apply below_drew1 | refine below_set ?_ GE240.out | refine below_set ?_ GE246.out) | exact HB.out)⟩
            ·rw [if_neg c39] at H
             have c39b0 : (t244 == 127) = false := beq_eq_false_iff_ne.mpr c39
             have c39b1 : (t244 != 127) = true := bne_iff_ne.mpr c39
             have c45b0 := eq_true (of_decide_eq_true (by first | (with_reducible assumption) | assumption) : 0 ≤ x4_1)
             by_cases c46 : x4_1 ≤ (wrap64 (x4_1 + t245))
             ·rw [if_pos c46] at H
              have c46b0 := eq_true c46
              have c46b1 : decide (x4_1 ≤ (wrap64 (x4_1 + t245))) = true := decide_eq_true c46
              by_cases c47 : (wrap64 (x4_1 + t245)) ≤ (a0.size : Int)
              ·rw [if_pos c47] at H
               have c47b0 := eq_true c47
               have c47b1 : decide ((wrap64 (x4_1 + t245)) ≤ (a0.size : Int)) = true := decide_eq_true c47
               by_cases c48 : x3_1.size + (a0.extract (x4_1 : Int).toNat ((wrap64 (x4_1 + t245)) : Int).toNat).size ≤ 9223372036854775807
               ·rw [if_pos c48] at H
                have c48b0 := eq_true c48
                have c48b1 : decide (x3_1.size + (a0.extract (x4_1 : Int).toNat ((wrap64 (x4_1 + t245)) : Int).toNat).size ≤ 9223372036854775807) = true := decide_eq_true c48
                try have c48b2 : (9223372036854775807 < x3_1.size + (a0.extract (x4_1 : Int).toNat ((wrap64 (x4_1 + t245)) : Int).toNat).size) = False := eq_false (Nat.not_lt.2 c48)
                have H' := Aside0.mk H
                clear H
                have p10 : 0 ≤ (x4_1 : Int) := of_decide_eq_true (by first | (with_reducible assumption) | assumption)
                have q10 : x4_1 < (a0.size : Int) := of_decide_eq_true (by first | (with_reducible assumption) | assumption)
                have hx10 := bt_at a0 x4_1
                replace p10 := eq_true p10
                replace q10 := eq_true q10
                go_wp2_with (first | ((with_reducible refine gate_callee (f := 67) rfl ?_); refine goesA (some 40) Tryd.func67 #[.string (a0.extract (x4_1 : Int).toNat a0.size)] ?_; (with_reducible refine (caduceusref02_First.calls kj2 (a0.extract (x4_1 : Int).toNat a0.size) t244 t245 _ A26.out).mono ?_); rintro e w49 ⟨rfl, hb⟩; refine ⟨_, rfl, ?_⟩; have n0_ := Aside0.mk (blk_below (g := gb240) (o := .cells #[.int .i64 x241000_1, .int .i64 x241001_1, .string x241002_1, .string x241003_1, .int .i64 x241004_1] 31 (0, 0)) blkA hb); have n1_ := Aside0.mk (below_step bwA hb); clear BK240; clear HB; have BK240 := n0_; have HB := n1_; clear n0_ n1_; (try clear hb); (try clear hb2); (try clear hk); (try clear hi)) | ((with_reducible refine gate_dst (N := 6) rfl ?_); refine box_event ?hg (N := 6) ?hd (cs := #[.int .i64 0, .int .i64 0]) (t := 103) ?hr ?_; (case hd => rfl); (case hg => rfl); (case hr => first | (go_simp; done) | (go_simp; rfl)); intro gb246 hg w50 hbox hb; have n0_ := Aside0.mk (blk_below (g := gb240) (o := .cells #[.int .i64 x241000_1, .int .i64 x241001_1, .string x241002_1, .string x241003_1, .int .i64 x241004_1] 31 (0, 0)) blkA hb); have n1_ := Aside0.mk (below_step bwA hb); have n2_ := Aside0.mk (hbox); have n3_ := Aside0.mk ((by rw [hg]; exact (below_size bwA) : w.heap.size ≤ gb246)); have n4_ := Aside0.mk ((by rw [hg]; exact (below_size bwA) : w.heap.size ≤ gb246)); have n5_ := Aside0.mk ((by rw [hg]; exact Nat.ne_of_lt (blk_lt (g := gb240) (o := .cells #[.int .i64 x241000_1, .int .i64 x241001_1, .string x241002_1, .string x241003_1, .int .i64 x241004_1] 31 (0, 0)) blkA) : gb240 ≠ gb246)); have n6_ := Aside0.mk ((by rw [hg]; exact Nat.ne_of_gt (blk_lt (g := gb240) (o := .cells #[.int .i64 x241000_1, .int .i64 x241001_1, .string x241002_1, .string x241003_1, .int .i64 x241004_1] 31 (0, 0)) blkA) : gb246 ≠ gb240)); clear BK240; clear HB; have BK240 := n0_; have HB := n1_; have BK246 := n2_; have GW246 := n3_; have GE246 := n4_; have NB240_246 := n5_; have NB246_240 := n6_; clear n0_ n1_ n2_ n3_ n4_ n5_ n6_; clear hb hbox hg; have hnb51 := NB246_240.out; have hnc51 := NB240_246.out; have hcz52_0 : w50.cell? ⟨gb246, 0, none⟩ = some (.int .i64 0) := (blk_cell BK246.out 0).trans rfl; have hcz52_1 : w50.cell? ⟨gb246, 1, none⟩ = some (.int .i64 0) := (blk_cell BK246.out 1).trans rfl; have hfz52_0 := blk_frozen BK246.out 0; have hfz52_1 := blk_frozen BK246.out 1))
                go_roundg kj2
                case measure => have := HK1.out; have := HJ2.out; omega
                case rel => exact ⟨(x3_1 ++ (a0.extract (x4_1 : Int).toNat ((wrap64 (x4_1 + t245)) : Int).toNat)), (wrap64 (x4_1 + t245)), (x241000_1), (x241001_1), (x241002_1), (x241003_1), (x241004_1), (by first | rfl | (simp; done) | (simp [*]; done)), (by first | rfl | (simp; done) | (simp [*]; done)), H', ⟨by have := HK1.out; have := HJ2.out; omega⟩, ⟨by (with_reducible repeat (first | refine blk_drewN ?_ _ | refine blk_drew ?_ | refine blk_alloc ?_ _)); refine blk_far ?_ NB240_246.out _; (with_reducible repeat (first | refine blk_drewN ?_ _ | refine blk_drew ?_ | refine blk_alloc ?_ _)); refine blk_far ?_ NB240_246.out _; (with_reducible repeat (first | refine blk_drewN ?_ _ | refine blk_drew ?_ | refine blk_alloc ?_ _)); exact BK240.out⟩, ⟨by repeat (first | (with_reducible first | exact HB.out | apply below_alloc | apply pw_below_drewN | apply below_drew1 | refine below_set ?_ GE240.out | refine below_set ?_ GE246.out) | exact HB.out)⟩⟩
               ·rw [if_neg c48] at H
                exact absurd H (by simp)
              ·rw [if_neg c47] at H
               exact absurd H (by simp)
             ·rw [if_neg c46] at H
              exact absurd H (by simp)
         ·rw [if_neg c25] at H
          exact absurd H (by simp)
       ·rw [if_neg c9] at H
        exact absurd H (by simp)
      ·rw [if_neg c8] at H
       exact absurd H (by simp)
     ·replace c7 := Bool.eq_false_iff.mpr c7
      subst c7
      have H1 : (if x4_1 ≥ (a0.size : Int) then (some (0, 0, (⟨#[]⟩ : ByteArray), (⟨#[]⟩ : ByteArray), 3)) else (if (x3_1.size : Int) > 200 then (some (0, 0, (⟨#[]⟩ : ByteArray), (⟨#[]⟩ : ByteArray), 2)) else (if 0 ≤ (wrap64 (x4_1 + 1)) then (if (wrap64 (x4_1 + 1)) ≤ (a0.size : Int) then (some (2, 0, x3_1, a0.extract ((wrap64 (x4_1 + 1)) : Int).toNat a0.size, 0)) else (none)) else (none)))) = some (r1, r2, r3, r4, r5) := by rw [if_neg (show ¬ (false = true) by decide)] at H; exact H
      clear H
      have H := H1
      clear H1
      by_cases c53 : x4_1 ≥ (a0.size : Int)
      ·rw [if_pos c53] at H
       have c53b0 : decide ((a0.size : Int) ≤ x4_1) = true := decide_eq_true c53
       clear c53
       simp only [Option.some.injEq, Prod.mk.injEq] at H
       obtain ⟨rfl, rfl, rfl, rfl, rfl⟩ := H
       have hcz54_0 : wc.cell? ⟨gb240, 0, none⟩ = some (.int .i64 x241000_1) := (blk_cell BK240.out 0).trans rfl
       have hcz54_1 : wc.cell? ⟨gb240, 1, none⟩ = some (.int .i64 x241001_1) := (blk_cell BK240.out 1).trans rfl
       have hcz54_2 : wc.cell? ⟨gb240, 2, none⟩ = some (.string x241002_1) := (blk_cell BK240.out 2).trans rfl
       have hcz54_3 : wc.cell? ⟨gb240, 3, none⟩ = some (.string x241003_1) := (blk_cell BK240.out 3).trans rfl
       have hcz54_4 : wc.cell? ⟨gb240, 4, none⟩ = some (.int .i64 x241004_1) := (blk_cell BK240.out 4).trans rfl
       have hfz54_0 := blk_frozen BK240.out 0
       have hfz54_1 := blk_frozen BK240.out 1
       have hfz54_2 := blk_frozen BK240.out 2
       have hfz54_3 := blk_frozen BK240.out 3
       have hfz54_4 := blk_frozen BK240.out 4
       go_wp2
       refine bodyPost_ret (results_cell_row rfl _ _ gb240 31 #[.int .i64 0, .int .i64 0, .string (⟨#[]⟩ : ByteArray), .string (⟨#[]⟩ : ByteArray), .int .i64 3] (0, 0) _ rfl (by (with_reducible repeat (first | refine blk_drewN ?_ _ | refine blk_drew ?_ | refine blk_alloc ?_ _)); refine blk_put (cs := #[.int .i64 0, .int .i64 0, .string (⟨#[]⟩ : ByteArray), .string (⟨#[]⟩ : ByteArray), .int .i64 x241004_1]) ?_ 4 _ rfl; (with_reducible repeat (first | refine blk_drewN ?_ _ | refine blk_drew ?_ | refine blk_alloc ?_ _)); refine blk_put (cs := #[.int .i64 0, .int .i64 0, .string (⟨#[]⟩ : ByteArray), .string x241003_1, .int .i64 x241004_1]) ?_ 3 _ rfl; (with_reducible repeat (first | refine blk_drewN ?_ _ | refine blk_drew ?_ | refine blk_alloc ?_ _)); refine blk_put (cs := #[.int .i64 0, .int .i64 0, .string x241002_1, .string x241003_1, .int .i64 x241004_1]) ?_ 2 _ rfl; (with_reducible repeat (first | refine blk_drewN ?_ _ | refine blk_drew ?_ | refine blk_alloc ?_ _)); refine blk_put (cs := #[.int .i64 0, .int .i64 x241001_1, .string x241002_1, .string x241003_1, .int .i64 x241004_1]) ?_ 1 _ rfl; (with_reducible repeat (first | refine blk_drewN ?_ _ | refine blk_drew ?_ | refine blk_alloc ?_ _)); refine blk_put (cs := #[.int .i64 x241000_1, .int .i64 x241001_1, .string x241002_1, .string x241003_1, .int .i64 x241004_1]) ?_ 0 _ rfl; (with_reducible repeat (first | refine blk_drewN ?_ _ | refine blk_drew ?_ | refine blk_alloc ?_ _)); exact BK240.out) Tryd.underlying31 rfl (by kernel_rfl)) rfl ?_
       exact ⟨by first | rfl | (simp [errW_none, errW_some] <;> rfl) | (simp [*, errW_none, errW_some] <;> rfl), by repeat (first | (with_reducible first | exact HB.out | apply below_alloc | apply pw_below_drewN | apply below_drew1 | refine below_set ?_ GE240.out) | exact HB.out)⟩
      ·rw [if_neg c53] at H
       have c53b0 : decide ((a0.size : Int) ≤ x4_1) = false := decide_eq_false c53
       clear c53
       by_cases c55 : (x3_1.size : Int) > 200
       ·rw [if_pos c55] at H
        have c55b0 : decide (200 < (x3_1.size : Int)) = true := decide_eq_true c55
        have c55b1 : decide (200 < x3_1.size) = true := decide_eq_true (by omega)
        clear c55
        simp only [Option.some.injEq, Prod.mk.injEq] at H
        obtain ⟨rfl, rfl, rfl, rfl, rfl⟩ := H
        have hcz56_0 : wc.cell? ⟨gb240, 0, none⟩ = some (.int .i64 x241000_1) := (blk_cell BK240.out 0).trans rfl
        have hcz56_1 : wc.cell? ⟨gb240, 1, none⟩ = some (.int .i64 x241001_1) := (blk_cell BK240.out 1).trans rfl
        have hcz56_2 : wc.cell? ⟨gb240, 2, none⟩ = some (.string x241002_1) := (blk_cell BK240.out 2).trans rfl
        have hcz56_3 : wc.cell? ⟨gb240, 3, none⟩ = some (.string x241003_1) := (blk_cell BK240.out 3).trans rfl
        have hcz56_4 : wc.cell? ⟨gb240, 4, none⟩ = some (.int .i64 x241004_1) := (blk_cell BK240.out 4).trans rfl
        have hfz56_0 := blk_frozen BK240.out 0
        have hfz56_1 := blk_frozen BK240.out 1
        have hfz56_2 := blk_frozen BK240.out 2
        have hfz56_3 := blk_frozen BK240.out 3
        have hfz56_4 := blk_frozen BK240.out 4
        go_wp2
        refine bodyPost_ret (results_cell_row rfl _ _ gb240 31 #[.int .i64 0, .int .i64 0, .string (⟨#[]⟩ : ByteArray), .string (⟨#[]⟩ : ByteArray), .int .i64 2] (0, 0) _ rfl (by (with_reducible repeat (first | refine blk_drewN ?_ _ | refine blk_drew ?_ | refine blk_alloc ?_ _)); refine blk_put (cs := #[.int .i64 0, .int .i64 0, .string (⟨#[]⟩ : ByteArray), .string (⟨#[]⟩ : ByteArray), .int .i64 x241004_1]) ?_ 4 _ rfl; (with_reducible repeat (first | refine blk_drewN ?_ _ | refine blk_drew ?_ | refine blk_alloc ?_ _)); refine blk_put (cs := #[.int .i64 0, .int .i64 0, .string (⟨#[]⟩ : ByteArray), .string x241003_1, .int .i64 x241004_1]) ?_ 3 _ rfl; (with_reducible repeat (first | refine blk_drewN ?_ _ | refine blk_drew ?_ | refine blk_alloc ?_ _)); refine blk_put (cs := #[.int .i64 0, .int .i64 0, .string x241002_1, .string x241003_1, .int .i64 x241004_1]) ?_ 2 _ rfl; (with_reducible repeat (first | refine blk_drewN ?_ _ | refine blk_drew ?_ | refine blk_alloc ?_ _)); refine blk_put (cs := #[.int .i64 0, .int .i64 x241001_1, .string x241002_1, .string x241003_1, .int .i64 x241004_1]) ?_ 1 _ rfl; (with_reducible repeat (first | refine blk_drewN ?_ _ | refine blk_drew ?_ | refine blk_alloc ?_ _)); refine blk_put (cs := #[.int .i64 x241000_1, .int .i64 x241001_1, .string x241002_1, .string x241003_1, .int .i64 x241004_1]) ?_ 0 _ rfl; (with_reducible repeat (first | refine blk_drewN ?_ _ | refine blk_drew ?_ | refine blk_alloc ?_ _)); exact BK240.out) Tryd.underlying31 rfl (by kernel_rfl)) rfl ?_
        exact ⟨by first | rfl | (simp [errW_none, errW_some] <;> rfl) | (simp [*, errW_none, errW_some] <;> rfl), by repeat (first | (with_reducible first | exact HB.out | apply below_alloc | apply pw_below_drewN | apply below_drew1 | refine below_set ?_ GE240.out) | exact HB.out)⟩
       ·rw [if_neg c55] at H
        have c55b0 : decide (200 < (x3_1.size : Int)) = false := decide_eq_false c55
        have c55b1 : decide (200 < x3_1.size) = false := decide_eq_false (by omega)
        clear c55
        obtain ⟨ji57, hji57⟩ : ∃ j_ : Int, (wrap64 (x4_1 + 1)) = j_ := ⟨_, rfl⟩
        replace H : (if 0 ≤ (ji57) then (if (ji57) ≤ (a0.size : Int) then (some (2, 0, x3_1, a0.extract ((ji57) : Int).toNat a0.size, 0)) else (none)) else (none)) = some (r1, r2, r3, r4, r5) := by first | (rw [hji57] at H; exact H) | (simp only [hji57] at H ⊢; exact H)
        have hji57w : (IntKind.i64.wrap (x4_1 + 1)) = ji57 := (i64_w _).trans hji57
        by_cases c58 : 0 ≤ (ji57)
        ·rw [if_pos c58] at H
         have c58b0 := eq_true c58
         have c58b1 : decide (0 ≤ (ji57)) = true := decide_eq_true c58
         clear c58
         by_cases c59 : (ji57) ≤ (a0.size : Int)
         ·rw [if_pos c59] at H
          have c59b0 := eq_true c59
          have c59b1 : decide ((ji57) ≤ (a0.size : Int)) = true := decide_eq_true c59
          clear c59
          simp only [Option.some.injEq, Prod.mk.injEq] at H
          obtain ⟨rfl, rfl, rfl, rfl, rfl⟩ := H
          have hcz60_0 : wc.cell? ⟨gb240, 0, none⟩ = some (.int .i64 x241000_1) := (blk_cell BK240.out 0).trans rfl
          have hcz60_1 : wc.cell? ⟨gb240, 1, none⟩ = some (.int .i64 x241001_1) := (blk_cell BK240.out 1).trans rfl
          have hcz60_2 : wc.cell? ⟨gb240, 2, none⟩ = some (.string x241002_1) := (blk_cell BK240.out 2).trans rfl
          have hcz60_3 : wc.cell? ⟨gb240, 3, none⟩ = some (.string x241003_1) := (blk_cell BK240.out 3).trans rfl
          have hcz60_4 : wc.cell? ⟨gb240, 4, none⟩ = some (.int .i64 x241004_1) := (blk_cell BK240.out 4).trans rfl
          have hfz60_0 := blk_frozen BK240.out 0
          have hfz60_1 := blk_frozen BK240.out 1
          have hfz60_2 := blk_frozen BK240.out 2
          have hfz60_3 := blk_frozen BK240.out 3
          have hfz60_4 := blk_frozen BK240.out 4
          go_wp2
          refine bodyPost_ret (results_cell_row rfl _ _ gb240 31 #[.int .i64 2, .int .i64 0, .string x3_1, .string (a0.extract ((ji57) : Int).toNat a0.size), .int .i64 0] (0, 0) _ rfl (by (with_reducible repeat (first | refine blk_drewN ?_ _ | refine blk_drew ?_ | refine blk_alloc ?_ _)); refine blk_put (cs := #[.int .i64 2, .int .i64 0, .string x3_1, .string (a0.extract ((ji57) : Int).toNat a0.size), .int .i64 x241004_1]) ?_ 4 _ rfl; (with_reducible repeat (first | refine blk_drewN ?_ _ | refine blk_drew ?_ | refine blk_alloc ?_ _)); refine blk_put (cs := #[.int .i64 2, .int .i64 0, .string x3_1, .string x241003_1, .int .i64 x241004_1]) ?_ 3 _ rfl; (with_reducible repeat (first | refine blk_drewN ?_ _ | refine blk_drew ?_ | refine blk_alloc ?_ _)); refine blk_put (cs := #[.int .i64 2, .int .i64 0, .string x241002_1, .string x241003_1, .int .i64 x241004_1]) ?_ 2 _ rfl; (with_reducible repeat (first | refine blk_drewN ?_ _ | refine blk_drew ?_ | refine blk_alloc ?_ _)); refine blk_put (cs := #[.int .i64 2, .int .i64 x241001_1, .string x241002_1, .string x241003_1, .int .i64 x241004_1]) ?_ 1 _ rfl; (with_reducible repeat (first | refine blk_drewN ?_ _ | refine blk_drew ?_ | refine blk_alloc ?_ _)); refine blk_put (cs := #[.int .i64 x241000_1, .int .i64 x241001_1, .string x241002_1, .string x241003_1, .int .i64 x241004_1]) ?_ 0 _ rfl; (with_reducible repeat (first | refine blk_drewN ?_ _ | refine blk_drew ?_ | refine blk_alloc ?_ _)); exact BK240.out) Tryd.underlying31 rfl (by kernel_rfl)) rfl ?_
          exact ⟨by first | rfl | (simp [errW_none, errW_some] <;> rfl) | (simp only [← hji57]; first | rfl | (simp [errW_none, errW_some] <;> rfl)) | (simp [*, errW_none, errW_some] <;> rfl), by repeat (first | (with_reducible first | exact HB.out | apply below_alloc | apply pw_below_drewN | apply below_drew1 | refine below_set ?_ GE240.out) | exact HB.out)⟩
         ·rw [if_neg c59] at H
          exact absurd H (by simp)
        ·rw [if_neg c58] at H
         exact absurd H (by simp)

/-! ### caduceusref03_digit: function 87 -/
def caduceusref03_digit.j0 : Nat → Int → Bool → Option (Int)
 | 0, _, _ => none
 | k + 1, x0, x8 => if x8 = true then (some (wrap64 ((wrap64 (x0)) - 48))) else (if x0 ≥ 97 then (if x0 ≤ 102 then (some (wrap64 ((wrap64 (x0)) - 87))) else (some (-1))) else (some (-1)))
def caduceusref03_digit.f (k : Nat) (a0 : Int) : Option (Int) := if a0 ≥ 48 then (caduceusref03_digit.j0 k a0 (decide (a0 ≤ 57))) else (caduceusref03_digit.j0 k a0 false)
theorem caduceusref03_digit.mono_l : ∀ k, (∀ y0 y1, LeO (caduceusref03_digit.j0 k y0 y1) (caduceusref03_digit.j0 (k + 1) y0 y1))
 | 0 => fun _ _ r h => by simp [caduceusref03_digit.j0] at h
 | k + 1 => by
  have ih0 := caduceusref03_digit.mono_l k
  ·intro y0 y1
   unfold caduceusref03_digit.j0
   repeat' first
   | (with_reducible exact ih0 _ _)
   | (with_reducible exact LeO.refl _)
   | (with_reducible exact LeO.none _)
   | (with_reducible refine LeO.ite ?_ ?_)
   | (with_reducible refine LeO.bind ?_ (fun _ => ?_))
   | exact ih0 _ _
   | exact LeO.none _
   | refine LeO.ite ?_ ?_
   | refine LeO.bind ?_ (fun _ => ?_)
theorem caduceusref03_digit.mono : ∀ a0 k, LeO (caduceusref03_digit.f k a0) (caduceusref03_digit.f (k + 1) a0) := by
 intro a0 k
 have ih0 := caduceusref03_digit.mono_l k
 unfold caduceusref03_digit.f
 repeat' first
   | (with_reducible exact ih0 _ _)
   | (with_reducible exact LeO.refl _)
   | (with_reducible exact LeO.none _)
   | (with_reducible refine LeO.ite ?_ ?_)
   | (with_reducible refine LeO.bind ?_ (fun _ => ?_))
   | exact ih0 _ _
   | exact LeO.none _
   | refine LeO.ite ?_ ?_
   | refine LeO.bind ?_ (fun _ => ?_)
set_option maxHeartbeats 8000000 in
set_option maxRecDepth 100000 in
theorem caduceusref03_digit.calls (k : Nat) (a0 : Int) (r : Int) (w : World) (h : caduceusref03_digit.f k a0 = some r) :
  Calls Tryd.prog 87 #[.int .u8 a0] w fun e w' => e = .returned (.int .i64 r) ∧ Drawn0 w w' := by
 have H : (if a0 ≥ 48 then (caduceusref03_digit.j0 k a0 (decide (a0 ≤ 57))) else (caduceusref03_digit.j0 k a0 false)) = some r := h
 clear h
 have HC2 := Aside0.mk H
 clear H
 go_enter Tryd.func87, Tryd.ntmps87
 go_upto_region 1 with (fail)
 go_cut [8] (fun v8 wc => ∃ (kq : Nat) (x8_1 : Bool), v8 = .bool x8_1 ∧ Aside0 (caduceusref03_digit.j0 kq a0 x8_1 = some r) ∧ Aside0 (kq ≤ k) ∧ Drawn0 w wc)
 case first =>
  have H := HC2.out
  clear HC2
  by_cases c3 : a0 ≥ 48
  ·rw [if_pos c3] at H
   have c3b0 : decide (48 ≤ a0) = true := decide_eq_true c3
   clear c3
   (first | rw [c3b0] | (simp only [i64_w, i32_w]; rw [c3b0]) | skip)
   have H' := Aside0.mk H
   clear H
   go_wp2
   go_meet
   case rel => exact ⟨_, (decide (a0 ≤ 57)), (by first | rfl | (simp; done) | (simp [*]; done)), H', ⟨by first | omega | exact Nat.le_refl _⟩, by repeat (first | exact Drawn0.refl _ | apply Drawn0.step)⟩
  ·rw [if_neg c3] at H
   have c3b0 : decide (48 ≤ a0) = false := decide_eq_false c3
   clear c3
   (first | rw [c3b0] | (simp only [i64_w, i32_w]; rw [c3b0]) | skip)
   have H' := Aside0.mk H
   clear H
   go_wp2
   go_meet
   case rel => exact ⟨_, (false), (by first | rfl | (simp; done) | (simp [*]; done)), H', ⟨by first | omega | exact Nat.le_refl _⟩, by repeat (first | exact Drawn0.refl _ | apply Drawn0.step)⟩
 case rest =>
  clear HC2
  try clear p2
  try clear c3
  try clear c3b0
  obtain ⟨kq, x8_1, rfl, HA, HJ1, ⟨mc1, rfl⟩⟩ := hcut
  cases kq with
  | zero => exact absurd HA.out (by simp [caduceusref03_digit.j0])
  | succ kj1 =>
   have H := HA.out
   clear HA
   simp only [caduceusref03_digit.j0] at H
   by_cases c4 : x8_1 = true
   ·subst c4
    have H1 : (some (wrap64 ((wrap64 (a0)) - 48))) = some r := by rw [if_pos rfl] at H; exact H
    clear H
    have H := H1
    clear H1
    obtain rfl := Option.some.inj H
    go_wp2
    go_ret
    exact ⟨by first | rfl | (simp; done) | (simp [*]; done) | (simp [wrap64]; done), by repeat (first | exact Drawn0.refl _ | apply Drawn0.step)⟩
   ·replace c4 := Bool.eq_false_iff.mpr c4
    subst c4
    have H1 : (if a0 ≥ 97 then (if a0 ≤ 102 then (some (wrap64 ((wrap64 (a0)) - 87))) else (some (-1))) else (some (-1))) = some r := by rw [if_neg (show ¬ (false = true) by decide)] at H; exact H
    clear H
    have H := H1
    clear H1
    by_cases c5 : a0 ≥ 97
    ·rw [if_pos c5] at H
     have c5b0 : decide (97 ≤ a0) = true := decide_eq_true c5
     clear c5
     by_cases c6 : a0 ≤ 102
     ·rw [if_pos c6] at H
      have c6b0 : decide (a0 ≤ 102) = true := decide_eq_true c6
      clear c6
      obtain rfl := Option.some.inj H
      go_wp2
      go_ret
      exact ⟨by first | rfl | (simp; done) | (simp [*]; done) | (simp [wrap64]; done), by repeat (first | exact Drawn0.refl _ | apply Drawn0.step)⟩
     ·rw [if_neg c6] at H
      have c6b0 : decide (a0 ≤ 102) = false := decide_eq_false c6
      clear c6
      obtain rfl := Option.some.inj H
      go_wp2
      go_ret
      exact ⟨by first | rfl | (simp; done) | (simp [*]; done) | (simp [wrap64]; done), by repeat (first | exact Drawn0.refl _ | apply Drawn0.step)⟩
    ·rw [if_neg c5] at H
     have c5b0 : decide (97 ≤ a0) = false := decide_eq_false c5
     clear c5
     obtain rfl := Option.some.inj H
     go_wp2
     go_ret
     exact ⟨by first | rfl | (simp; done) | (simp [*]; done) | (simp [wrap64]; done), by repeat (first | exact Drawn0.refl _ | apply Drawn0.step)⟩

end Go.Proofs.YtoajlmmkkcelgaaDoor.A
