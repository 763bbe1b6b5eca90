-- By drv.py, the session's own driver round the kit's print: the machine's side of the laws, function by function. Not trusted: Lean checks it.
import Derived.Test.YtoajlmmkkcelgaaGreatDoorAx0
import Derived.Test.YtoajlmmkkcelgaaGreatDoorAx1
import Derived.Test.YtoajlmmkkcelgaaGreatDoorAx16
namespace Go.Proofs.YtoajlmmkkcelgaaGreatDoor.A
open Go.RowKit Go.Proofs.YtoajlmmkkcelgaaGreatDoorW.PrintWords Go.Proofs.YtoajlmmkkcelgaaGreatDoorW.PrintLast Go.Proofs.YtoajlmmkkcelgaaGreatDoorW.PrintMore
attribute [local go_sem] max2_int min2_int max_two min_two max_three min_three max_four min_four   -- for this text's walks alone
set_option linter.unusedVariables false
set_option linter.unusedSimpArgs false

/-! ### quic_Put: function 22, by hand -/
def quic_Put.go (k : Nat) : List S40 → List UInt8 → Option (ByteArray × Int)
 | [], acc => some (⟨acc.toArray⟩, 0)
 | x :: l, acc => (quic_one.f k x.f0 x.f1 x.f2).bind fun t => if t.2 = true then (if acc.length + t.1.size ≤ 140737488355328 then quic_Put.go k l (acc ++ t.1.data.toList) else none) else some (⟨#[]⟩, 1)
def quic_Put.f (k : Nat) (l0 : List S40) : Option (ByteArray × Int) := if l0.length ≤ 4096 then quic_Put.go k l0 [] else some (⟨#[]⟩, 2)
theorem quic_Put.mono_go (k : Nat) : ∀ l acc, LeO (quic_Put.go k l acc) (quic_Put.go (k + 1) l acc)
 | [], acc => LeO.refl _
 | x :: l, acc => by
  unfold quic_Put.go
  repeat' first
   | (with_reducible exact LeO.refl _)
   | (with_reducible exact LeO.none _)
   | (with_reducible exact quic_one.mono _ _ _ _)
   | exact quic_Put.mono_go k l _
   | (with_reducible refine LeO.ite ?_ ?_)
   | (with_reducible refine LeO.bind ?_ (fun _ => ?_))
theorem quic_Put.mono : ∀ a0 k, LeO (quic_Put.f k a0) (quic_Put.f (k + 1) a0) := by
 intro a0 k
 unfold quic_Put.f
 repeat' first
  | exact quic_Put.mono_go k a0 _
  | exact LeO.refl _
  | refine LeO.ite ?_ ?_
set_option maxHeartbeats 4000000 in
set_option maxRecDepth 100000 in
theorem quic_Put.calls (k : Nat) (A0 : Option Addr) (c0 : Nat) (l0 : List S40) (r1 : ByteArray) (r2 : Int) (w : World) (hr0 : Kd.C k40 w A0 l0.length l0) (hc0 : l0.length ≤ c0) (h : quic_Put.f k l0 = some (r1, r2)) :
  Calls Tryz.prog 22 #[.slice A0 l0.length c0] w fun e w' => e = .returned (.tuple #[.string r1, .int .i64 r2]) ∧ Below w.heap.size w w' := by
 have hu := Tryz.underlying40
 have HR := Aside0.mk hr0
 have HC := Aside0.mk hc0
 clear hr0 hc0
 unfold quic_Put.f at h
 by_cases hl : l0.length ≤ 4096
 ·rw [if_pos hl] at h
  have b0 : decide ((l0.length : Int) > 4096) = false := decide_eq_false (by omega)
  have H := Lib.hid h
  have HL := Lib.hid hl
  clear h hl
  go_enter Tryz.func22, Tryz.ntmps22
  go_wp2
  have I0 := Lib.IsBuilderF.of (Lib.fresh_isBuilder 49 5 w)
  go_loopw [14] (fun v14 wr => ∃ (x : Int) (acc : List UInt8), v14 = .int .i64 x ∧ Hid (0 ≤ x ∧ x ≤ (l0.length : Int)) ∧ Lib.IsBuilderF 49 5 w.heap.size w.heap.size (Lib.byteCells acc) wr ∧ Below w.heap.size w wr ∧ Hid (quic_Put.go k (l0.drop x.toNat) acc = some (r1, r2))) (fun v14 _ => l0.length - (intOf v14).toNat)
  case atStart => exact ⟨0, [], rfl, ⟨by omega, by omega⟩, I0, (Below.refl _ w).alloc (Nat.le_refl _) _, H⟩
  case round =>
   obtain ⟨x, acc, rfl, HX, hI, hbw, HG⟩ := hrel
   clear H
   have hx := HX.out
   by_cases hlt : x < (l0.length : Int)
   ·have b1 : decide (x < (l0.length : Int)) = true := decide_eq_true hlt
    have p0 : 0 ≤ x := hx.1
    have hd : l0.drop x.toNat = rd_T40 l0 x :: l0.drop (x + 1).toNat := by
     have e : (x + 1).toNat = x.toNat + 1 := by omega
     have hn : x.toNat < l0.length := by omega
     rw [e, List.drop_eq_getElem_cons hn]
     unfold rd_T40
     rw [List.getD_eq_getElem?_getD, List.getElem?_eq_getElem hn]
     rfl
    have hgo := HG.out
    rw [hd, quic_Put.go] at hgo
    obtain ⟨⟨t1, t2⟩, ho, hgo⟩ := Option.bind_eq_some_iff.1 hgo
    dsimp only at hgo
    obtain ⟨ad, ead, hx0, hx1, hx2⟩ := at_T40 (Kd.C_below HR.out hbw) x p0 hlt
    cases ead
    have cO := fun W => quic_one.calls k (rd_T40 l0 x).f0 (rd_T40 l0 x).f1 (rd_T40 l0 x).f2 t1 t2 W ho
    have HGo := Lib.hid hgo
    have hsz := Lib.hid hbw.size
    have w1 := Lib.hid (show wrap64 (x + 1) = x + 1 by unfold wrap64; have := HL.out; omega)
    clear hd hgo ho HG HX hx
    have HX0 := Lib.hid (show 0 ≤ x by omega)
    have HB2 := Lib.hid (show 0 ≤ x + 1 ∧ x + 1 ≤ (l0.length : Int) by omega)
    replace p0 := eq_true p0
    replace hlt := eq_true hlt
    cases t2 with
    | true =>
     have hgo := HGo.out
     clear HGo
     rw [if_pos rfl] at hgo
     by_cases hz : acc.length + t1.size ≤ 140737488355328
     ·rw [if_pos hz] at hgo
      have HG2 := Lib.hid hgo
      have HZ := Lib.hid hz
      clear hgo hz
      go_wp2_with (first | ((with_reducible refine gate_dst (N := 6) rfl ?_); refine box_event ?hg (N := 6) ?hd (cs := #[.int .i64 0, .int .i64 0, .string (⟨#[]⟩ : ByteArray)]) (t := 40) ?hr ?_; (case hd => rfl); (case hg => rfl); (case hr => first | (go_simp; done) | (go_simp; rfl)); intro gb hg w2 hbox hb; have Hg := Lib.hid hg; clear hg; have hcz := fun j => Lib.cell_of_heap hbox j; have hfz := fun j => blk_frozen hbox j; have hv3 := vput3 hbox (.int .i64 (rd_T40 l0 x).f0) (.int .i64 (rd_T40 l0 x).f1) (.string (rd_T40 l0 x).f2); have c3 := fun j => Lib.cell_of_heap hv3 j; have f3 := fun j => Lib.frozen_of_heap hv3 j) | (go_at_call 36; refine (cO _).mono ?_; rintro e w4 ⟨rfl, hb4⟩))
      have hb3 := bput3 hb (show _ ≤ gb by rw [Hg.out]; exact Nat.le_refl _) (.int .i64 (rd_T40 l0 x).f0) (.int .i64 (rd_T40 l0 x).f1) (.string (rd_T40 l0 x).f2)
      have hI4 := builderF_below (builderF_below hI hb3) hb4
      have hbw4 := below_step (below_step hbw hb3) hb4
      refine (Tryz.Bld_WriteString w.heap.size w.heap.size _ t1 _ hI4 (by rw [Lib.byteCells_length]; exact HZ.out) hbw4.size).mono ?_
      rintro e W5 ⟨rfl, h1, b1, k1⟩
      go_wp2
      go_roundw
      case rel => exact ⟨x + 1, acc ++ t1.data.toList, (by rw [w1.out]), HB2, (by rw [Lib.byteCells_append, ← strCells_mk]; exact Or.inr h1), hbw4.trans b1, HG2⟩
      case measure =>
       have e1 := w1.out
       have e2 := HB2.out
       have e3 := HX0.out
       show l0.length - (intOf (.int .i64 (wrap64 (x + 1)))).toNat < l0.length - (intOf (.int .i64 x)).toNat
       rw [e1]
       simp only [intOf]
       omega
     ·rw [if_neg hz] at hgo
      cases hgo
    | false =>
     have hgo := HGo.out
     clear HGo
     rw [if_neg (by decide)] at hgo
     have hgo := Option.some.inj hgo
     simp only [Prod.mk.injEq] at hgo
     obtain ⟨rfl, rfl⟩ := hgo
     go_wp2_with (first | ((with_reducible refine gate_dst (N := 6) rfl ?_); refine box_event ?hg (N := 6) ?hd (cs := #[.int .i64 0, .int .i64 0, .string (⟨#[]⟩ : ByteArray)]) (t := 40) ?hr ?_; (case hd => rfl); (case hg => rfl); (case hr => first | (go_simp; done) | (go_simp; rfl)); intro gb hg w2 hbox hb; have Hg := Lib.hid hg; clear hg; have hcz := fun j => Lib.cell_of_heap hbox j; have hfz := fun j => blk_frozen hbox j; have hv3 := vput3 hbox (.int .i64 (rd_T40 l0 x).f0) (.int .i64 (rd_T40 l0 x).f1) (.string (rd_T40 l0 x).f2); have c3 := fun j => Lib.cell_of_heap hv3 j; have f3 := fun j => Lib.frozen_of_heap hv3 j) | (go_at_call 36; refine (cO _).mono ?_; rintro e w4 ⟨rfl, hb4⟩))
     have hb3 := bput3 hb (show _ ≤ gb by rw [Hg.out]; exact Nat.le_refl _) (.int .i64 (rd_T40 l0 x).f0) (.int .i64 (rd_T40 l0 x).f1) (.string (rd_T40 l0 x).f2)
     have hbw4 := below_step (below_step hbw hb3) hb4
     go_ret2
     exact ⟨rfl, hbw4⟩
   ·have b1 : decide (x < (l0.length : Int)) = false := decide_eq_false hlt
    have hgo := HG.out
    rw [List.drop_of_length_le (by omega), quic_Put.go] at hgo
    have hgo := Option.some.inj hgo
    simp only [Prod.mk.injEq] at hgo
    obtain ⟨rfl, rfl⟩ := hgo
    clear HG HX hx hlt
    go_wp2_with fail
    refine (Tryz.Builder_String_any_k w.heap.size w.heap.size acc _ hI hbw.size).mono ?_
    rintro e W4 ⟨rfl, _, b4, _⟩
    go_wp2
    go_ret2
    exact ⟨rfl, hbw.trans b4⟩
 ·rw [if_neg hl] at h
  have h := Option.some.inj h
  simp only [Prod.mk.injEq] at h
  obtain ⟨rfl, rfl⟩ := h
  have b0 : decide ((l0.length : Int) > 4096) = true := decide_eq_true (by omega)
  clear hl
  go_enter Tryz.func22, Tryz.ntmps22
  go_wp2
  go_ret2
  exact ⟨rfl, Below.refl _ _⟩

/-! ### value_Text: function 9 -/
def value_Text.f (k : Nat) (a0_0 : Int) (a0_1 : Int) (a0_2 : ByteArray) : Option (ByteArray) := (value_Check.f a0_0 a0_1 a0_2).bind fun t299 => (if t299 = true then ((some (([(⟨1, a0_0, (⟨#[]⟩ : ByteArray)⟩ : S40)] : List (S40)) : List (S40))).bind fun y300 => (if a0_0 = 1 then (if y300.length < 4398046511104 then ((quic_Put.f k (y300 ++ [(⟨2, a0_1, (⟨#[]⟩ : ByteArray)⟩ : S40)])).bind fun bt306 => (some bt306.1)) else (none)) else (if a0_0 = 3 then (if y300.length < 4398046511104 then ((quic_Put.f k (y300 ++ [(⟨3, a0_1, (⟨#[]⟩ : ByteArray)⟩ : S40)])).bind fun bt311 => (some bt311.1)) else (none)) else (if y300.length < 4398046511104 then ((quic_Put.f k (y300 ++ [(⟨4, 0, a0_2⟩ : S40)])).bind fun bt316 => (some bt316.1)) else (none))))) else (some (⟨#[]⟩ : ByteArray)))
theorem value_Text.mono : ∀ a0 a1 a2 k, LeO (value_Text.f k a0 a1 a2) (value_Text.f (k + 1) a0 a1 a2) := by
 intro a0 a1 a2 k
 unfold value_Text.f
 repeat' first
   | (with_reducible exact quic_Put.mono _ _)
   | (with_reducible exact LeO.refl _)
   | (with_reducible exact LeO.none _)
   | (with_reducible refine LeO.ite ?_ ?_)
   | (with_reducible refine LeO.bind ?_ (fun _ => ?_))
   | exact quic_Put.mono _ _
   | exact LeO.none _
   | refine LeO.ite ?_ ?_
   | refine LeO.bind ?_ (fun _ => ?_)
set_option maxHeartbeats 8000000 in
set_option maxRecDepth 100000 in
theorem value_Text.calls (k : Nat) (a0_0 : Int) (a0_1 : Int) (a0_2 : ByteArray) (r : ByteArray) (w : World) (hT : Tabs w) (h : value_Text.f k a0_0 a0_1 a0_2 = some r) :
  Calls Tryz.prog 9 #[.agg #[.int .i64 a0_0, .int .i64 a0_1, .string a0_2]] w fun e w' => e = .returned (.string r) ∧ Below w.heap.size w w' := by
 have hu23 := Tryz.underlying23
 have hu40 := Tryz.underlying40
 have HB := Aside0.mk (Below.refl w.heap.size w)
 have H : ((value_Check.f a0_0 a0_1 a0_2).bind fun t299 => (if t299 = true then ((some (([(⟨1, a0_0, (⟨#[]⟩ : ByteArray)⟩ : S40)] : List (S40)) : List (S40))).bind fun y300 => (if a0_0 = 1 then (if y300.length < 4398046511104 then ((quic_Put.f k (y300 ++ [(⟨2, a0_1, (⟨#[]⟩ : ByteArray)⟩ : S40)])).bind fun bt306 => (some bt306.1)) else (none)) else (if a0_0 = 3 then (if y300.length < 4398046511104 then ((quic_Put.f k (y300 ++ [(⟨3, a0_1, (⟨#[]⟩ : ByteArray)⟩ : S40)])).bind fun bt311 => (some bt311.1)) else (none)) else (if y300.length < 4398046511104 then ((quic_Put.f k (y300 ++ [(⟨4, 0, a0_2⟩ : S40)])).bind fun bt316 => (some bt316.1)) else (none))))) else (some (⟨#[]⟩ : ByteArray)))) = some r := h
 clear h
 have HT := Aside0.mk hT
 clear hT
 replace H := Option.bind_eq_some_iff.mp H
 obtain ⟨t299, A20, H⟩ := H
 replace H : (if t299 = true then ((some (([(⟨1, a0_0, (⟨#[]⟩ : ByteArray)⟩ : S40)] : List (S40)) : List (S40))).bind fun y300 => (if a0_0 = 1 then (if y300.length < 4398046511104 then ((quic_Put.f k (y300 ++ [(⟨2, a0_1, (⟨#[]⟩ : ByteArray)⟩ : S40)])).bind fun bt306 => (some bt306.1)) else (none)) else (if a0_0 = 3 then (if y300.length < 4398046511104 then ((quic_Put.f k (y300 ++ [(⟨3, a0_1, (⟨#[]⟩ : ByteArray)⟩ : S40)])).bind fun bt311 => (some bt311.1)) else (none)) else (if y300.length < 4398046511104 then ((quic_Put.f k (y300 ++ [(⟨4, 0, a0_2⟩ : S40)])).bind fun bt316 => (some bt316.1)) else (none))))) else (some (⟨#[]⟩ : ByteArray))) = some r := H
 have A2 := Aside0.mk A20
 clear A20
 by_cases c3 : t299 = true
 ·subst c3
  have H1 : ((some (([(⟨1, a0_0, (⟨#[]⟩ : ByteArray)⟩ : S40)] : List (S40)) : List (S40))).bind fun y300 => (if a0_0 = 1 then (if y300.length < 4398046511104 then ((quic_Put.f k (y300 ++ [(⟨2, a0_1, (⟨#[]⟩ : ByteArray)⟩ : S40)])).bind fun bt306 => (some bt306.1)) else (none)) else (if a0_0 = 3 then (if y300.length < 4398046511104 then ((quic_Put.f k (y300 ++ [(⟨3, a0_1, (⟨#[]⟩ : ByteArray)⟩ : S40)])).bind fun bt311 => (some bt311.1)) else (none)) else (if y300.length < 4398046511104 then ((quic_Put.f k (y300 ++ [(⟨4, 0, a0_2⟩ : S40)])).bind fun bt316 => (some bt316.1)) else (none))))) = some r := by rw [if_pos rfl] at H; exact H
  clear H
  have H := H1
  clear H1
  obtain ⟨y300, hy300⟩ : ∃ y_ : List (S40), y_ = (([(⟨1, a0_0, (⟨#[]⟩ : ByteArray)⟩ : S40)] : List (S40))) := ⟨_, rfl⟩
  replace H : (if a0_0 = 1 then (if y300.length < 4398046511104 then ((quic_Put.f k (y300 ++ [(⟨2, a0_1, (⟨#[]⟩ : ByteArray)⟩ : S40)])).bind fun bt306 => (some bt306.1)) else (none)) else (if a0_0 = 3 then (if y300.length < 4398046511104 then ((quic_Put.f k (y300 ++ [(⟨3, a0_1, (⟨#[]⟩ : ByteArray)⟩ : S40)])).bind fun bt311 => (some bt311.1)) else (none)) else (if y300.length < 4398046511104 then ((quic_Put.f k (y300 ++ [(⟨4, 0, a0_2⟩ : S40)])).bind fun bt316 => (some bt316.1)) else (none)))) = some r := by first | (rw [hy300]; with_reducible exact H) | (have H2_ := (Option.bind_some _ _).symm.trans H; rw [hy300]; with_reducible exact H2_) | (have H2_ := (Option.bind_some _ _).symm.trans H; with_reducible exact H2_) | with_reducible exact H | (rw [hy300]; exact H) | exact H
  have Ny300 := Aside0.mk hy300
  clear hy300
  by_cases c4 : a0_0 = 1
  ·rw [if_pos c4] at H
   have c4b0 : (a0_0 == 1) = true := beq_iff_eq.mpr c4
   have c4b1 : (a0_0 != 1) = false := bne_eq_false_iff_eq.mpr c4
   clear c4
   by_cases c5 : y300.length < 4398046511104
   ·rw [if_pos c5] at H
    have LMc5 := Aside0.mk c5
    clear c5
    obtain ⟨y303, hy303⟩ : ∃ y_ : List (S40), y_ = (y300 ++ [(⟨2, a0_1, (⟨#[]⟩ : ByteArray)⟩ : S40)]) := ⟨_, rfl⟩
    replace H : ((quic_Put.f k y303).bind fun bt306 => (some bt306.1)) = some r := by first | (rw [hy303]; with_reducible exact H) | (have H2_ := (Option.bind_some _ _).symm.trans H; rw [hy303]; with_reducible exact H2_) | (have H2_ := (Option.bind_some _ _).symm.trans H; with_reducible exact H2_) | with_reducible exact H | (rw [hy303]; exact H) | exact H
    have Ny303 := Aside0.mk hy303
    clear hy303
    replace H := Option.bind_eq_some_iff.mp H
    obtain ⟨⟨t306, t307⟩, A60, H⟩ := H
    replace H : (some t306) = some r := H
    have A6 := Aside0.mk A60
    clear A60
    obtain rfl := Option.some.inj H
    go_enter Tryz.func9, Tryz.ntmps9
    go_wp2_with (first | ((with_reducible refine gate_dst (N := 1) rfl ?_); refine box_event ?hg (N := 1) ?hd (cs := #[.int .i64 a0_0, .int .i64 a0_1, .string a0_2]) (t := 23) ?hr ?_; (case hd => rfl); (case hg => rfl); (case hr => first | (go_simp; done) | (go_simp; rfl)); intro gb298 hg w7 hbox hb; have n0_ := Aside0.mk (below_step bwA hb); have n1_ := Aside0.mk (hbox); have n2_ := Aside0.mk ((by rw [hg]; exact (below_size bwA) : w.heap.size ≤ gb298)); have n3_ := Aside0.mk ((by rw [hg]; exact (below_size bwA) : w.heap.size ≤ gb298)); clear HB; have HB := n0_; have BK298 := n1_; have GW298 := n2_; have GE298 := n3_; clear n0_ n1_ n2_ n3_; clear hb hbox hg; have hcz8_0 : w7.cell? ⟨gb298, 0, none⟩ = some (.int .i64 a0_0) := (blk_cell BK298.out 0).trans rfl; have hcz8_1 : w7.cell? ⟨gb298, 1, none⟩ = some (.int .i64 a0_1) := (blk_cell BK298.out 1).trans rfl; have hcz8_2 : w7.cell? ⟨gb298, 2, none⟩ = some (.string a0_2) := (blk_cell BK298.out 2).trans rfl; have hfz8_0 := blk_frozen BK298.out 0; have hfz8_1 := blk_frozen BK298.out 1; have hfz8_2 := blk_frozen BK298.out 2) | ((with_reducible refine gate_callee (f := 12) rfl ?_); refine goesA (some 7) Tryz.func12 #[.agg #[.int .i64 a0_0, .int .i64 a0_1, .string a0_2]] ?_; (with_reducible refine (value_Check.calls a0_0 a0_1 a0_2 true _ ?side1 A2.out).mono ?_); (case side1 => exact Tabs.below HT.out bwA); rintro e w9 ⟨rfl, hb⟩; refine ⟨_, rfl, ?_⟩; have n0_ := Aside0.mk (blk_below (g := gb298) (o := .cells #[.int .i64 a0_0, .int .i64 a0_1, .string a0_2] 23 (0, 0)) blkA hb); have n1_ := Aside0.mk (below_step bwA hb); clear BK298; clear HB; have BK298 := n0_; have HB := n1_; clear n0_ n1_; (try clear hb); (try clear hb2); (try clear hk); (try clear hi); have hcz10_0 : w9.cell? ⟨gb298, 0, none⟩ = some (.int .i64 a0_0) := (blk_cell BK298.out 0).trans rfl; have hcz10_1 : w9.cell? ⟨gb298, 1, none⟩ = some (.int .i64 a0_1) := (blk_cell BK298.out 1).trans rfl; have hcz10_2 : w9.cell? ⟨gb298, 2, none⟩ = some (.string a0_2) := (blk_cell BK298.out 2).trans rfl; have hfz10_0 := blk_frozen BK298.out 0; have hfz10_1 := blk_frozen BK298.out 1; have hfz10_2 := blk_frozen BK298.out 2) | ((with_reducible refine gate_dst (N := 12) rfl ?_); refine Kd.R_lit k40 _ 40 ?hg (N := 12) ?hd (xs := ([(⟨1, a0_0, (⟨#[]⟩ : ByteArray)⟩ : S40)] : List (S40))) (inner := [.int .i64 1, .int .i64 a0_0, .string (⟨#[]⟩ : ByteArray)]) (ok := fun _ => True) (okp := fun _ => True) ?hr ?hp (fun _ hk => hk) trivial (Below.refl _ _) (Nat.le_refl _) (by simp) ?_; (case hd => rfl); (case hg => rfl); (case hr => first | (go_simp; done) | (go_simp; rfl)); (case hp => exact (Reps.c3 (show Kd.M k40 _ _ _ (⟨1, a0_0, (⟨#[]⟩ : ByteArray)⟩ : S40) [.int .i64 1, .int .i64 a0_0, .string (⟨#[]⟩ : ByteArray)] from (k40_mkM _ _ _ (⟨1, a0_0, (⟨#[]⟩ : ByteArray)⟩ : S40) )) (Reps.none _ _))); intro v301 w11 ho12 hb hg_ hnew_; clear hg_ hnew_; (first | rw [← Ny300.out] at ho12 | (simp only [Int.reduceToNat] at ho12; rw [← Ny300.out] at ho12)); have n0_ := Aside0.mk (Kd.R_lower ho12 (below_size bwA)); have n1_ := Aside0.mk (blk_below (g := gb298) (o := .cells #[.int .i64 a0_0, .int .i64 a0_1, .string a0_2] 23 (0, 0)) blkA hb); have n2_ := Aside0.mk (below_step bwA hb); clear BK298; clear HB; have HO302 := n0_; have BK298 := n1_; have HB := n2_; clear n0_ n1_ n2_; clear hb ho12; have hcz13_0 : w11.cell? ⟨gb298, 0, none⟩ = some (.int .i64 a0_0) := (blk_cell BK298.out 0).trans rfl; have hcz13_1 : w11.cell? ⟨gb298, 1, none⟩ = some (.int .i64 a0_1) := (blk_cell BK298.out 1).trans rfl; have hcz13_2 : w11.cell? ⟨gb298, 2, none⟩ = some (.string a0_2) := (blk_cell BK298.out 2).trans rfl; have hfz13_0 := blk_frozen BK298.out 0; have hfz13_1 := blk_frozen BK298.out 1; have hfz13_2 := blk_frozen BK298.out 2) | ((with_reducible refine gate_builtin (b := .append) (xs := #[.tmp 23, .tmp 27]) rfl ?_); at_builtin; refine Kd.R_append k40 (w0 := w) w.heap.size rfl (.tmp 23) (.tmp 27) 41 40 (.agg #[(.int .i64 0), (.int .i64 0), (.string ⟨#[]⟩)]) 32 rfl Tryz.underlying41 info40 rfl (by decide) (by omega) v301 y300 (⟨2, a0_1, (⟨#[]⟩ : ByteArray)⟩ : S40) [.int .i64 2, .int .i64 a0_1, .string (⟨#[]⟩ : ByteArray)] (fun _ => True) (fun _ => False) rfl rfl ?aP (fun _ hk => hk.elim) ?aF ?aO ?aB ?aS ?aL ?_; (case aP => exact k40_mkM _ _ _ (⟨2, a0_1, (⟨#[]⟩ : ByteArray)⟩ : S40)); (case aB => exact bwA); (case aF => exact (fun _ _ => trivial)); (case aO => exact (by (with_reducible repeat (first | apply Kd.R_alloc | apply Kd.R_drewN | apply Kd.R_drew)); exact HO302.out)); (case aS => exact (below_size bwA)); (case aL => have := LMc5.out; omega); intro v304 w14 ho hb hg hat; rw [← Ny303.out] at ho; have n0_ := Aside0.mk (blk_grown (g := gb298) (o := .cells #[.int .i64 a0_0, .int .i64 a0_1, .string a0_2] 23 (0, 0)) blkA hg (Kd.R_ne HO302.out BK298.out (by decide))); have n1_ := Aside0.mk (hb); have n2_ := Aside0.mk (ho); clear BK298; clear HB; clear HO302; have BK298 := n0_; have HB := n1_; have HO305 := n2_; clear n0_ n1_ n2_; clear ho hb hg hat; obtain ⟨Ao15, co15, eo15⟩ := Kd.R_slice HO305.out; subst eo15) | ((with_reducible refine gate_callee (f := 22) rfl ?_); refine goesA (some 39) Tryz.func22 #[.slice Ao15 y303.length co15] ?_; (with_reducible refine (quic_Put.calls k _ _ y303 t306 t307 _ ?side1 ?side2 A6.out).mono ?_); (case side1 => repeat (first | exact (Kd.R_reads' HO305.out).2.2 | (with_reducible refine Kd.C_alloc ?_ _) | (with_reducible refine Kd.C_drewN ?_ _) | (with_reducible refine Kd.C_drew ?_))); (case side2 => exact (Kd.R_reads' HO305.out).2.1); rintro e w16 ⟨rfl, hb⟩; refine ⟨_, rfl, ?_⟩; have n0_ := Aside0.mk (Kd.R_below (by (with_reducible repeat (first | apply Kd.R_alloc | apply Kd.R_drewN | apply Kd.R_drew)); exact HO305.out) hb); have n1_ := Aside0.mk (blk_below (g := gb298) (o := .cells #[.int .i64 a0_0, .int .i64 a0_1, .string a0_2] 23 (0, 0)) blkA hb); have n2_ := Aside0.mk (below_step bwA hb); clear HO305; clear BK298; clear HB; have HO305 := n0_; have BK298 := n1_; have HB := n2_; clear n0_ n1_ n2_; (try clear hb); (try clear hb2); (try clear hk); (try clear hi)))
    go_ret
    exact ⟨by first | rfl | (simp [errW_none, errW_some] <;> rfl) | (simp [*, errW_none, errW_some] <;> rfl), by repeat (first | (with_reducible first | exact HB.out | apply below_alloc | apply pw_below_drewN | apply below_drew1 | refine below_set ?_ GE298.out) | exact HB.out)⟩
   ·rw [if_neg c5] at H
    exact absurd H (by simp)
  ·rw [if_neg c4] at H
   have c4b0 : (a0_0 == 1) = false := beq_eq_false_iff_ne.mpr c4
   have c4b1 : (a0_0 != 1) = true := bne_iff_ne.mpr c4
   by_cases c17 : a0_0 = 3
   ·rw [if_pos c17] at H
    have c17b0 : (a0_0 == 3) = true := beq_iff_eq.mpr c17
    have c17b1 : (a0_0 != 3) = false := bne_eq_false_iff_eq.mpr c17
    clear c17
    by_cases c18 : y300.length < 4398046511104
    ·rw [if_pos c18] at H
     have LMc18 := Aside0.mk c18
     clear c18
     obtain ⟨y308, hy308⟩ : ∃ y_ : List (S40), y_ = (y300 ++ [(⟨3, a0_1, (⟨#[]⟩ : ByteArray)⟩ : S40)]) := ⟨_, rfl⟩
     replace H : ((quic_Put.f k y308).bind fun bt311 => (some bt311.1)) = some r := by first | (rw [hy308]; with_reducible exact H) | (have H2_ := (Option.bind_some _ _).symm.trans H; rw [hy308]; with_reducible exact H2_) | (have H2_ := (Option.bind_some _ _).symm.trans H; with_reducible exact H2_) | with_reducible exact H | (rw [hy308]; exact H) | exact H
     have Ny308 := Aside0.mk hy308
     clear hy308
     replace H := Option.bind_eq_some_iff.mp H
     obtain ⟨⟨t311, t312⟩, A190, H⟩ := H
     replace H : (some t311) = some r := H
     have A19 := Aside0.mk A190
     clear A190
     obtain rfl := Option.some.inj H
     go_enter Tryz.func9, Tryz.ntmps9
     go_wp2_with (first | ((with_reducible refine gate_dst (N := 1) rfl ?_); refine box_event ?hg (N := 1) ?hd (cs := #[.int .i64 a0_0, .int .i64 a0_1, .string a0_2]) (t := 23) ?hr ?_; (case hd => rfl); (case hg => rfl); (case hr => first | (go_simp; done) | (go_simp; rfl)); intro gb298 hg w20 hbox hb; have n0_ := Aside0.mk (below_step bwA hb); have n1_ := Aside0.mk (hbox); have n2_ := Aside0.mk ((by rw [hg]; exact (below_size bwA) : w.heap.size ≤ gb298)); have n3_ := Aside0.mk ((by rw [hg]; exact (below_size bwA) : w.heap.size ≤ gb298)); clear HB; have HB := n0_; have BK298 := n1_; have GW298 := n2_; have GE298 := n3_; clear n0_ n1_ n2_ n3_; clear hb hbox hg; have hcz21_0 : w20.cell? ⟨gb298, 0, none⟩ = some (.int .i64 a0_0) := (blk_cell BK298.out 0).trans rfl; have hcz21_1 : w20.cell? ⟨gb298, 1, none⟩ = some (.int .i64 a0_1) := (blk_cell BK298.out 1).trans rfl; have hcz21_2 : w20.cell? ⟨gb298, 2, none⟩ = some (.string a0_2) := (blk_cell BK298.out 2).trans rfl; have hfz21_0 := blk_frozen BK298.out 0; have hfz21_1 := blk_frozen BK298.out 1; have hfz21_2 := blk_frozen BK298.out 2) | ((with_reducible refine gate_callee (f := 12) rfl ?_); refine goesA (some 7) Tryz.func12 #[.agg #[.int .i64 a0_0, .int .i64 a0_1, .string a0_2]] ?_; (with_reducible refine (value_Check.calls a0_0 a0_1 a0_2 true _ ?side1 A2.out).mono ?_); (case side1 => exact Tabs.below HT.out bwA); rintro e w22 ⟨rfl, hb⟩; refine ⟨_, rfl, ?_⟩; have n0_ := Aside0.mk (blk_below (g := gb298) (o := .cells #[.int .i64 a0_0, .int .i64 a0_1, .string a0_2] 23 (0, 0)) blkA hb); have n1_ := Aside0.mk (below_step bwA hb); clear BK298; clear HB; have BK298 := n0_; have HB := n1_; clear n0_ n1_; (try clear hb); (try clear hb2); (try clear hk); (try clear hi); have hcz23_0 : w22.cell? ⟨gb298, 0, none⟩ = some (.int .i64 a0_0) := (blk_cell BK298.out 0).trans rfl; have hcz23_1 : w22.cell? ⟨gb298, 1, none⟩ = some (.int .i64 a0_1) := (blk_cell BK298.out 1).trans rfl; have hcz23_2 : w22.cell? ⟨gb298, 2, none⟩ = some (.string a0_2) := (blk_cell BK298.out 2).trans rfl; have hfz23_0 := blk_frozen BK298.out 0; have hfz23_1 := blk_frozen BK298.out 1; have hfz23_2 := blk_frozen BK298.out 2) | ((with_reducible refine gate_dst (N := 12) rfl ?_); refine Kd.R_lit k40 _ 40 ?hg (N := 12) ?hd (xs := ([(⟨1, a0_0, (⟨#[]⟩ : ByteArray)⟩ : S40)] : List (S40))) (inner := [.int .i64 1, .int .i64 a0_0, .string (⟨#[]⟩ : ByteArray)]) (ok := fun _ => True) (okp := fun _ => True) ?hr ?hp (fun _ hk => hk) trivial (Below.refl _ _) (Nat.le_refl _) (by simp) ?_; (case hd => rfl); (case hg => rfl); (case hr => first | (go_simp; done) | (go_simp; rfl)); (case hp => exact (Reps.c3 (show Kd.M k40 _ _ _ (⟨1, a0_0, (⟨#[]⟩ : ByteArray)⟩ : S40) [.int .i64 1, .int .i64 a0_0, .string (⟨#[]⟩ : ByteArray)] from (k40_mkM _ _ _ (⟨1, a0_0, (⟨#[]⟩ : ByteArray)⟩ : S40) )) (Reps.none _ _))); intro v301 w24 ho25 hb hg_ hnew_; clear hg_ hnew_; (first | rw [← Ny300.out] at ho25 | (simp only [Int.reduceToNat] at ho25; rw [← Ny300.out] at ho25)); have n0_ := Aside0.mk (Kd.R_lower ho25 (below_size bwA)); have n1_ := Aside0.mk (blk_below (g := gb298) (o := .cells #[.int .i64 a0_0, .int .i64 a0_1, .string a0_2] 23 (0, 0)) blkA hb); have n2_ := Aside0.mk (below_step bwA hb); clear BK298; clear HB; have HO302 := n0_; have BK298 := n1_; have HB := n2_; clear n0_ n1_ n2_; clear hb ho25; have hcz26_0 : w24.cell? ⟨gb298, 0, none⟩ = some (.int .i64 a0_0) := (blk_cell BK298.out 0).trans rfl; have hcz26_1 : w24.cell? ⟨gb298, 1, none⟩ = some (.int .i64 a0_1) := (blk_cell BK298.out 1).trans rfl; have hcz26_2 : w24.cell? ⟨gb298, 2, none⟩ = some (.string a0_2) := (blk_cell BK298.out 2).trans rfl; have hfz26_0 := blk_frozen BK298.out 0; have hfz26_1 := blk_frozen BK298.out 1; have hfz26_2 := blk_frozen BK298.out 2) | ((with_reducible refine gate_builtin (b := .append) (xs := #[.tmp 31, .tmp 35]) rfl ?_); at_builtin; refine Kd.R_append k40 (w0 := w) w.heap.size rfl (.tmp 31) (.tmp 35) 41 40 (.agg #[(.int .i64 0), (.int .i64 0), (.string ⟨#[]⟩)]) 32 rfl Tryz.underlying41 info40 rfl (by decide) (by omega) v301 y300 (⟨3, a0_1, (⟨#[]⟩ : ByteArray)⟩ : S40) [.int .i64 3, .int .i64 a0_1, .string (⟨#[]⟩ : ByteArray)] (fun _ => True) (fun _ => False) rfl rfl ?aP (fun _ hk => hk.elim) ?aF ?aO ?aB ?aS ?aL ?_; (case aP => exact k40_mkM _ _ _ (⟨3, a0_1, (⟨#[]⟩ : ByteArray)⟩ : S40)); (case aB => exact bwA); (case aF => exact (fun _ _ => trivial)); (case aO => exact (by (with_reducible repeat (first | apply Kd.R_alloc | apply Kd.R_drewN | apply Kd.R_drew)); exact HO302.out)); (case aS => exact (below_size bwA)); (case aL => have := LMc18.out; omega); intro v309 w27 ho hb hg hat; rw [← Ny308.out] at ho; have n0_ := Aside0.mk (blk_grown (g := gb298) (o := .cells #[.int .i64 a0_0, .int .i64 a0_1, .string a0_2] 23 (0, 0)) blkA hg (Kd.R_ne HO302.out BK298.out (by decide))); have n1_ := Aside0.mk (hb); have n2_ := Aside0.mk (ho); clear BK298; clear HB; clear HO302; have BK298 := n0_; have HB := n1_; have HO310 := n2_; clear n0_ n1_ n2_; clear ho hb hg hat; obtain ⟨Ao28, co28, eo28⟩ := Kd.R_slice HO310.out; subst eo28) | ((with_reducible refine gate_callee (f := 22) rfl ?_); refine goesA (some 39) Tryz.func22 #[.slice Ao28 y308.length co28] ?_; (with_reducible refine (quic_Put.calls k _ _ y308 t311 t312 _ ?side1 ?side2 A19.out).mono ?_); (case side1 => repeat (first | exact (Kd.R_reads' HO310.out).2.2 | (with_reducible refine Kd.C_alloc ?_ _) | (with_reducible refine Kd.C_drewN ?_ _) | (with_reducible refine Kd.C_drew ?_))); (case side2 => exact (Kd.R_reads' HO310.out).2.1); rintro e w29 ⟨rfl, hb⟩; refine ⟨_, rfl, ?_⟩; have n0_ := Aside0.mk (Kd.R_below (by (with_reducible repeat (first | apply Kd.R_alloc | apply Kd.R_drewN | apply Kd.R_drew)); exact HO310.out) hb); have n1_ := Aside0.mk (blk_below (g := gb298) (o := .cells #[.int .i64 a0_0, .int .i64 a0_1, .string a0_2] 23 (0, 0)) blkA hb); have n2_ := Aside0.mk (below_step bwA hb); clear HO310; clear BK298; clear HB; have HO310 := n0_; have BK298 := n1_; have HB := n2_; clear n0_ n1_ n2_; (try clear hb); (try clear hb2); (try clear hk); (try clear hi)))
     go_ret
     exact ⟨by first | rfl | (simp [errW_none, errW_some] <;> rfl) | (simp [*, errW_none, errW_some] <;> rfl), by repeat (first | (with_reducible first | exact HB.out | apply below_alloc | apply pw_below_drewN | apply below_drew1 | refine below_set ?_ GE298.out) | exact HB.out)⟩
    ·rw [if_neg c18] at H
     exact absurd H (by simp)
   ·rw [if_neg c17] at H
    have c17b0 : (a0_0 == 3) = false := beq_eq_false_iff_ne.mpr c17
    have c17b1 : (a0_0 != 3) = true := bne_iff_ne.mpr c17
    by_cases c30 : y300.length < 4398046511104
    ·rw [if_pos c30] at H
     have LMc30 := Aside0.mk c30
     clear c30
     obtain ⟨y313, hy313⟩ : ∃ y_ : List (S40), y_ = (y300 ++ [(⟨4, 0, a0_2⟩ : S40)]) := ⟨_, rfl⟩
     replace H : ((quic_Put.f k y313).bind fun bt316 => (some bt316.1)) = some r := by first | (rw [hy313]; with_reducible exact H) | (have H2_ := (Option.bind_some _ _).symm.trans H; rw [hy313]; with_reducible exact H2_) | (have H2_ := (Option.bind_some _ _).symm.trans H; with_reducible exact H2_) | with_reducible exact H | (rw [hy313]; exact H) | exact H
     have Ny313 := Aside0.mk hy313
     clear hy313
     replace H := Option.bind_eq_some_iff.mp H
     obtain ⟨⟨t316, t317⟩, A310, H⟩ := H
     replace H : (some t316) = some r := H
     have A31 := Aside0.mk A310
     clear A310
     obtain rfl := Option.some.inj H
     go_enter Tryz.func9, Tryz.ntmps9
     go_wp2_with (first | ((with_reducible refine gate_dst (N := 1) rfl ?_); refine box_event ?hg (N := 1) ?hd (cs := #[.int .i64 a0_0, .int .i64 a0_1, .string a0_2]) (t := 23) ?hr ?_; (case hd => rfl); (case hg => rfl); (case hr => first | (go_simp; done) | (go_simp; rfl)); intro gb298 hg w32 hbox hb; have n0_ := Aside0.mk (below_step bwA hb); have n1_ := Aside0.mk (hbox); have n2_ := Aside0.mk ((by rw [hg]; exact (below_size bwA) : w.heap.size ≤ gb298)); have n3_ := Aside0.mk ((by rw [hg]; exact (below_size bwA) : w.heap.size ≤ gb298)); clear HB; have HB := n0_; have BK298 := n1_; have GW298 := n2_; have GE298 := n3_; clear n0_ n1_ n2_ n3_; clear hb hbox hg; have hcz33_0 : w32.cell? ⟨gb298, 0, none⟩ = some (.int .i64 a0_0) := (blk_cell BK298.out 0).trans rfl; have hcz33_1 : w32.cell? ⟨gb298, 1, none⟩ = some (.int .i64 a0_1) := (blk_cell BK298.out 1).trans rfl; have hcz33_2 : w32.cell? ⟨gb298, 2, none⟩ = some (.string a0_2) := (blk_cell BK298.out 2).trans rfl; have hfz33_0 := blk_frozen BK298.out 0; have hfz33_1 := blk_frozen BK298.out 1; have hfz33_2 := blk_frozen BK298.out 2) | ((with_reducible refine gate_callee (f := 12) rfl ?_); refine goesA (some 7) Tryz.func12 #[.agg #[.int .i64 a0_0, .int .i64 a0_1, .string a0_2]] ?_; (with_reducible refine (value_Check.calls a0_0 a0_1 a0_2 true _ ?side1 A2.out).mono ?_); (case side1 => exact Tabs.below HT.out bwA); rintro e w34 ⟨rfl, hb⟩; refine ⟨_, rfl, ?_⟩; have n0_ := Aside0.mk (blk_below (g := gb298) (o := .cells #[.int .i64 a0_0, .int .i64 a0_1, .string a0_2] 23 (0, 0)) blkA hb); have n1_ := Aside0.mk (below_step bwA hb); clear BK298; clear HB; have BK298 := n0_; have HB := n1_; clear n0_ n1_; (try clear hb); (try clear hb2); (try clear hk); (try clear hi); have hcz35_0 : w34.cell? ⟨gb298, 0, none⟩ = some (.int .i64 a0_0) := (blk_cell BK298.out 0).trans rfl; have hcz35_1 : w34.cell? ⟨gb298, 1, none⟩ = some (.int .i64 a0_1) := (blk_cell BK298.out 1).trans rfl; have hcz35_2 : w34.cell? ⟨gb298, 2, none⟩ = some (.string a0_2) := (blk_cell BK298.out 2).trans rfl; have hfz35_0 := blk_frozen BK298.out 0; have hfz35_1 := blk_frozen BK298.out 1; have hfz35_2 := blk_frozen BK298.out 2) | ((with_reducible refine gate_dst (N := 12) rfl ?_); refine Kd.R_lit k40 _ 40 ?hg (N := 12) ?hd (xs := ([(⟨1, a0_0, (⟨#[]⟩ : ByteArray)⟩ : S40)] : List (S40))) (inner := [.int .i64 1, .int .i64 a0_0, .string (⟨#[]⟩ : ByteArray)]) (ok := fun _ => True) (okp := fun _ => True) ?hr ?hp (fun _ hk => hk) trivial (Below.refl _ _) (Nat.le_refl _) (by simp) ?_; (case hd => rfl); (case hg => rfl); (case hr => first | (go_simp; done) | (go_simp; rfl)); (case hp => exact (Reps.c3 (show Kd.M k40 _ _ _ (⟨1, a0_0, (⟨#[]⟩ : ByteArray)⟩ : S40) [.int .i64 1, .int .i64 a0_0, .string (⟨#[]⟩ : ByteArray)] from (k40_mkM _ _ _ (⟨1, a0_0, (⟨#[]⟩ : ByteArray)⟩ : S40) )) (Reps.none _ _))); intro v301 w36 ho37 hb hg_ hnew_; clear hg_ hnew_; (first | rw [← Ny300.out] at ho37 | (simp only [Int.reduceToNat] at ho37; rw [← Ny300.out] at ho37)); have n0_ := Aside0.mk (Kd.R_lower ho37 (below_size bwA)); have n1_ := Aside0.mk (blk_below (g := gb298) (o := .cells #[.int .i64 a0_0, .int .i64 a0_1, .string a0_2] 23 (0, 0)) blkA hb); have n2_ := Aside0.mk (below_step bwA hb); clear BK298; clear HB; have HO302 := n0_; have BK298 := n1_; have HB := n2_; clear n0_ n1_ n2_; clear hb ho37; have hcz38_0 : w36.cell? ⟨gb298, 0, none⟩ = some (.int .i64 a0_0) := (blk_cell BK298.out 0).trans rfl; have hcz38_1 : w36.cell? ⟨gb298, 1, none⟩ = some (.int .i64 a0_1) := (blk_cell BK298.out 1).trans rfl; have hcz38_2 : w36.cell? ⟨gb298, 2, none⟩ = some (.string a0_2) := (blk_cell BK298.out 2).trans rfl; have hfz38_0 := blk_frozen BK298.out 0; have hfz38_1 := blk_frozen BK298.out 1; have hfz38_2 := blk_frozen BK298.out 2) | ((with_reducible refine gate_builtin (b := .append) (xs := #[.tmp 15, .tmp 19]) rfl ?_); at_builtin; refine Kd.R_append k40 (w0 := w) w.heap.size rfl (.tmp 15) (.tmp 19) 41 40 (.agg #[(.int .i64 0), (.int .i64 0), (.string ⟨#[]⟩)]) 32 rfl Tryz.underlying41 info40 rfl (by decide) (by omega) v301 y300 (⟨4, 0, a0_2⟩ : S40) [.int .i64 4, .int .i64 0, .string a0_2] (fun _ => True) (fun _ => False) rfl rfl ?aP (fun _ hk => hk.elim) ?aF ?aO ?aB ?aS ?aL ?_; (case aP => exact k40_mkM _ _ _ (⟨4, 0, a0_2⟩ : S40)); (case aB => exact bwA); (case aF => exact (fun _ _ => trivial)); (case aO => exact (by (with_reducible repeat (first | apply Kd.R_alloc | apply Kd.R_drewN | apply Kd.R_drew)); exact HO302.out)); (case aS => exact (below_size bwA)); (case aL => have := LMc30.out; omega); intro v314 w39 ho hb hg hat; rw [← Ny313.out] at ho; have n0_ := Aside0.mk (blk_grown (g := gb298) (o := .cells #[.int .i64 a0_0, .int .i64 a0_1, .string a0_2] 23 (0, 0)) blkA hg (Kd.R_ne HO302.out BK298.out (by decide))); have n1_ := Aside0.mk (hb); have n2_ := Aside0.mk (ho); clear BK298; clear HB; clear HO302; have BK298 := n0_; have HB := n1_; have HO315 := n2_; clear n0_ n1_ n2_; clear ho hb hg hat; obtain ⟨Ao40, co40, eo40⟩ := Kd.R_slice HO315.out; subst eo40) | ((with_reducible refine gate_callee (f := 22) rfl ?_); refine goesA (some 39) Tryz.func22 #[.slice Ao40 y313.length co40] ?_; (with_reducible refine (quic_Put.calls k _ _ y313 t316 t317 _ ?side1 ?side2 A31.out).mono ?_); (case side1 => repeat (first | exact (Kd.R_reads' HO315.out).2.2 | (with_reducible refine Kd.C_alloc ?_ _) | (with_reducible refine Kd.C_drewN ?_ _) | (with_reducible refine Kd.C_drew ?_))); (case side2 => exact (Kd.R_reads' HO315.out).2.1); rintro e w41 ⟨rfl, hb⟩; refine ⟨_, rfl, ?_⟩; have n0_ := Aside0.mk (Kd.R_below (by (with_reducible repeat (first | apply Kd.R_alloc | apply Kd.R_drewN | apply Kd.R_drew)); exact HO315.out) hb); have n1_ := Aside0.mk (blk_below (g := gb298) (o := .cells #[.int .i64 a0_0, .int .i64 a0_1, .string a0_2] 23 (0, 0)) blkA hb); have n2_ := Aside0.mk (below_step bwA hb); clear HO315; clear BK298; clear HB; have HO315 := n0_; have BK298 := n1_; have HB := n2_; clear n0_ n1_ n2_; (try clear hb); (try clear hb2); (try clear hk); (try clear hi)))
     go_ret
     exact ⟨by first | rfl | (simp [errW_none, errW_some] <;> rfl) | (simp [*, errW_none, errW_some] <;> rfl), by repeat (first | (with_reducible first | exact HB.out | apply below_alloc | apply pw_below_drewN | apply below_drew1 | refine below_set ?_ GE298.out) | exact HB.out)⟩
    ·rw [if_neg c30] at H
     exact absurd H (by simp)
 ·replace c3 := Bool.eq_false_iff.mpr c3
  subst c3
  have H1 : (some (⟨#[]⟩ : ByteArray)) = some r := by rw [if_neg (show ¬ (false = true) by decide)] at H; exact H
  clear H
  have H := H1
  clear H1
  obtain rfl := Option.some.inj H
  go_enter Tryz.func9, Tryz.ntmps9
  go_wp2_with (first | ((with_reducible refine gate_dst (N := 1) rfl ?_); refine box_event ?hg (N := 1) ?hd (cs := #[.int .i64 a0_0, .int .i64 a0_1, .string a0_2]) (t := 23) ?hr ?_; (case hd => rfl); (case hg => rfl); (case hr => first | (go_simp; done) | (go_simp; rfl)); intro gb298 hg w42 hbox hb; have n0_ := Aside0.mk (below_step bwA hb); have n1_ := Aside0.mk (hbox); have n2_ := Aside0.mk ((by rw [hg]; exact (below_size bwA) : w.heap.size ≤ gb298)); have n3_ := Aside0.mk ((by rw [hg]; exact (below_size bwA) : w.heap.size ≤ gb298)); clear HB; have HB := n0_; have BK298 := n1_; have GW298 := n2_; have GE298 := n3_; clear n0_ n1_ n2_ n3_; clear hb hbox hg; have hcz43_0 : w42.cell? ⟨gb298, 0, none⟩ = some (.int .i64 a0_0) := (blk_cell BK298.out 0).trans rfl; have hcz43_1 : w42.cell? ⟨gb298, 1, none⟩ = some (.int .i64 a0_1) := (blk_cell BK298.out 1).trans rfl; have hcz43_2 : w42.cell? ⟨gb298, 2, none⟩ = some (.string a0_2) := (blk_cell BK298.out 2).trans rfl; have hfz43_0 := blk_frozen BK298.out 0; have hfz43_1 := blk_frozen BK298.out 1; have hfz43_2 := blk_frozen BK298.out 2) | ((with_reducible refine gate_callee (f := 12) rfl ?_); refine goesA (some 7) Tryz.func12 #[.agg #[.int .i64 a0_0, .int .i64 a0_1, .string a0_2]] ?_; (with_reducible refine (value_Check.calls a0_0 a0_1 a0_2 false _ ?side1 A2.out).mono ?_); (case side1 => exact Tabs.below HT.out bwA); rintro e w44 ⟨rfl, hb⟩; refine ⟨_, rfl, ?_⟩; have n0_ := Aside0.mk (blk_below (g := gb298) (o := .cells #[.int .i64 a0_0, .int .i64 a0_1, .string a0_2] 23 (0, 0)) blkA hb); have n1_ := Aside0.mk (below_step bwA hb); clear BK298; clear HB; have BK298 := n0_; have HB := n1_; clear n0_ n1_; (try clear hb); (try clear hb2); (try clear hk); (try clear hi)))
  go_ret
  exact ⟨by first | rfl | (simp [errW_none, errW_some] <;> rfl) | (simp [*, errW_none, errW_some] <;> rfl), by repeat (first | (with_reducible first | exact HB.out | apply below_alloc | apply pw_below_drewN | apply below_drew1 | refine below_set ?_ GE298.out) | exact HB.out)⟩

/-! ### caduceusref01_Size: function 37 -/
def caduceusref01_Size.j0 : Nat → Int → Bool → Option (Int)
 | 0, _, _ => none
 | k + 1, x0, x8 => if x8 = true then (some 0) else (if x0 < 64 then (some 1) else (if x0 < 16384 then (some 2) else (if x0 < 1073741824 then (some 4) else (some 8))))
def caduceusref01_Size.f (k : Nat) (a0 : Int) : Option (Int) := if a0 < 0 then (caduceusref01_Size.j0 k a0 true) else (caduceusref01_Size.j0 k a0 (decide (a0 > 4611686018427387903)))
theorem caduceusref01_Size.mono_l : ∀ k, (∀ y0 y1, LeO (caduceusref01_Size.j0 k y0 y1) (caduceusref01_Size.j0 (k + 1) y0 y1))
 | 0 => fun _ _ r h => by simp [caduceusref01_Size.j0] at h
 | k + 1 => by
  have ih0 := caduceusref01_Size.mono_l k
  ·intro y0 y1
   unfold caduceusref01_Size.j0
   repeat' first
   | (with_reducible exact ih0 _ _)
   | (with_reducible exact LeO.refl _)
   | (with_reducible exact LeO.none _)
   | (with_reducible refine LeO.ite ?_ ?_)
   | (with_reducible refine LeO.bind ?_ (fun _ => ?_))
   | exact ih0 _ _
   | exact LeO.none _
   | refine LeO.ite ?_ ?_
   | refine LeO.bind ?_ (fun _ => ?_)
theorem caduceusref01_Size.mono : ∀ a0 k, LeO (caduceusref01_Size.f k a0) (caduceusref01_Size.f (k + 1) a0) := by
 intro a0 k
 have ih0 := caduceusref01_Size.mono_l k
 unfold caduceusref01_Size.f
 repeat' first
   | (with_reducible exact ih0 _ _)
   | (with_reducible exact LeO.refl _)
   | (with_reducible exact LeO.none _)
   | (with_reducible refine LeO.ite ?_ ?_)
   | (with_reducible refine LeO.bind ?_ (fun _ => ?_))
   | exact ih0 _ _
   | exact LeO.none _
   | refine LeO.ite ?_ ?_
   | refine LeO.bind ?_ (fun _ => ?_)
set_option maxHeartbeats 8000000 in
set_option maxRecDepth 100000 in
theorem caduceusref01_Size.calls (k : Nat) (a0 : Int) (r : Int) (w : World) (h : caduceusref01_Size.f k a0 = some r) :
  Calls Tryz.prog 37 #[.int .i64 a0] w fun e w' => e = .returned (.int .i64 r) ∧ Drawn0 w w' := by
 have H : (if a0 < 0 then (caduceusref01_Size.j0 k a0 true) else (caduceusref01_Size.j0 k a0 (decide (a0 > 4611686018427387903)))) = some r := h
 clear h
 have HC2 := Aside0.mk H
 clear H
 go_enter Tryz.func37, Tryz.ntmps37
 go_upto_region 1 with (fail)
 go_cut [8] (fun v8 wc => ∃ (kq : Nat) (x8_1 : Bool), v8 = .bool x8_1 ∧ Aside0 (caduceusref01_Size.j0 kq a0 x8_1 = some r) ∧ Aside0 (kq ≤ k) ∧ Drawn0 w wc)
 case first =>
  have H := HC2.out
  clear HC2
  by_cases c3 : a0 < 0
  ·rw [if_pos c3] at H
   have c3b0 : decide (a0 < 0) = true := decide_eq_true c3
   clear c3
   (first | rw [c3b0] | (simp only [i64_w, i32_w]; rw [c3b0]) | skip)
   have H' := Aside0.mk H
   clear H
   go_wp2
   go_meet
   case rel => exact ⟨_, (true), (by first | rfl | (simp; done) | (simp [*]; done)), H', ⟨by first | omega | exact Nat.le_refl _⟩, by repeat (first | exact Drawn0.refl _ | apply Drawn0.step)⟩
  ·rw [if_neg c3] at H
   have c3b0 : decide (a0 < 0) = false := decide_eq_false c3
   clear c3
   (first | rw [c3b0] | (simp only [i64_w, i32_w]; rw [c3b0]) | skip)
   have H' := Aside0.mk H
   clear H
   go_wp2
   go_meet
   case rel => exact ⟨_, (decide (a0 > 4611686018427387903)), (by first | rfl | (simp; done) | (simp [*]; done)), H', ⟨by first | omega | exact Nat.le_refl _⟩, by repeat (first | exact Drawn0.refl _ | apply Drawn0.step)⟩
 case rest =>
  clear HC2
  try clear p2
  try clear c3
  try clear c3b0
  obtain ⟨kq, x8_1, rfl, HA, HJ1, ⟨mc1, rfl⟩⟩ := hcut
  cases kq with
  | zero => exact absurd HA.out (by simp [caduceusref01_Size.j0])
  | succ kj1 =>
   have H := HA.out
   clear HA
   simp only [caduceusref01_Size.j0] at H
   by_cases c4 : x8_1 = true
   ·subst c4
    have H1 : (some 0) = some r := by rw [if_pos rfl] at H; exact H
    clear H
    have H := H1
    clear H1
    obtain rfl := Option.some.inj H
    go_wp2
    go_ret
    exact ⟨by first | rfl | (simp; done) | (simp [*]; done) | (simp [wrap64]; done), by repeat (first | exact Drawn0.refl _ | apply Drawn0.step)⟩
   ·replace c4 := Bool.eq_false_iff.mpr c4
    subst c4
    have H1 : (if a0 < 64 then (some 1) else (if a0 < 16384 then (some 2) else (if a0 < 1073741824 then (some 4) else (some 8)))) = some r := by rw [if_neg (show ¬ (false = true) by decide)] at H; exact H
    clear H
    have H := H1
    clear H1
    by_cases c5 : a0 < 64
    ·rw [if_pos c5] at H
     have c5b0 : decide (a0 < 64) = true := decide_eq_true c5
     clear c5
     obtain rfl := Option.some.inj H
     go_wp2
     go_ret
     exact ⟨by first | rfl | (simp; done) | (simp [*]; done) | (simp [wrap64]; done), by repeat (first | exact Drawn0.refl _ | apply Drawn0.step)⟩
    ·rw [if_neg c5] at H
     have c5b0 : decide (a0 < 64) = false := decide_eq_false c5
     clear c5
     by_cases c6 : a0 < 16384
     ·rw [if_pos c6] at H
      have c6b0 : decide (a0 < 16384) = true := decide_eq_true c6
      clear c6
      obtain rfl := Option.some.inj H
      go_wp2
      go_ret
      exact ⟨by first | rfl | (simp; done) | (simp [*]; done) | (simp [wrap64]; done), by repeat (first | exact Drawn0.refl _ | apply Drawn0.step)⟩
     ·rw [if_neg c6] at H
      have c6b0 : decide (a0 < 16384) = false := decide_eq_false c6
      clear c6
      by_cases c7 : a0 < 1073741824
      ·rw [if_pos c7] at H
       have c7b0 : decide (a0 < 1073741824) = true := decide_eq_true c7
       clear c7
       obtain rfl := Option.some.inj H
       go_wp2
       go_ret
       exact ⟨by first | rfl | (simp; done) | (simp [*]; done) | (simp [wrap64]; done), by repeat (first | exact Drawn0.refl _ | apply Drawn0.step)⟩
      ·rw [if_neg c7] at H
       have c7b0 : decide (a0 < 1073741824) = false := decide_eq_false c7
       clear c7
       obtain rfl := Option.some.inj H
       go_wp2
       go_ret
       exact ⟨by first | rfl | (simp; done) | (simp [*]; done) | (simp [wrap64]; done), by repeat (first | exact Drawn0.refl _ | apply Drawn0.step)⟩

end Go.Proofs.YtoajlmmkkcelgaaGreatDoor.A
