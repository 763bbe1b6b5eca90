-- By drv.py, the session's own driver round the kit's print: the machine's side of the laws, function by function. Not trusted: Lean checks it.
import Derived.Test.YtlejenoibblhnaaDoorAx0
import Derived.Test.YtlejenoibblhnaaDoorAx9
import Derived.Test.YtlejenoibblhnaaDoorAx14
namespace Go.Proofs.YtlejenoibblhnaaDoor.A
open Go.RowKit Go.Proofs.YtlejenoibblhnaaDoorW.PrintWords Go.Proofs.YtlejenoibblhnaaDoorW.PrintLast Go.Proofs.YtlejenoibblhnaaDoorW.PrintMore
attribute [local go_sem] max2_int min2_int max_two min_two max_three min_three max_four min_four   -- for this text's walks alone
set_option linter.unusedVariables false
set_option linter.unusedSimpArgs false

/-! ### value_FromB: function 119, by hand -/
set_option maxHeartbeats 4000000 in
set_option maxRecDepth 100000 in
theorem From0B.calls (A : Option Addr) (m c : Nat) (l : List Int) (b : Bool) (w : World) (hC : (Kd.int .u8).C w A m l) (hT : Tabs w) (h : value_Check.f 4 0 (strOfNums l) = some b) :
  Calls Tryd.prog 7 #[.iface 22 (.slice A m c)] w fun e w' => e = .returned (.tuple #[.agg #[.int .i64 (if b = true then 4 else 0), .int .i64 (if b = true then 0 else 0), .string (if b = true then (strOfNums l) else ⟨#[]⟩)], .int .i64 (if b = true then 0 else 1)]) ∧ Below w.heap.size w w' := by
 have hu := Tryd.underlying26
 have hu0 := Tryd.underlying20
 have huT0 := Tryd.underlying3
 have huT1 := Tryd.underlying9
 have huT2 := Tryd.underlying4
 have huT3 := Tryd.underlying22
 have hb2 : Below w.heap.size w ((w.alloc (.cells #[.int .i64 0, .int .i64 0, .string ⟨#[]⟩] 26)).alloc (.cells #[.int .i64 4, .int .i64 0, .string (strOfNums l)] 26)) := ((Below.refl _ w).alloc (Nat.le_refl _) _).alloc (by simp) _
 have cC := fun W (hb : Below w.heap.size w W) => value_Check.calls 4 0 (strOfNums l) b W (hT.below hb) h
 have HB2 := Aside0.mk hb2
 have ta0 : ∀ W, (Instr.typeAssert (.iface 22 (.slice A m c)) 20 3 true).run Tryd.prog W = .ok (.tuple #[.int .i64 0, .bool false]) W := fun W => by simp [Instr.typeAssert, run_underlying hu0, run_underlying huT0, go_sem, Result.andThen]
 have ta1 : ∀ W, (Instr.typeAssert (.iface 22 (.slice A m c)) 20 9 true).run Tryd.prog W = .ok (.tuple #[.string ⟨#[]⟩, .bool false]) W := fun W => by simp [Instr.typeAssert, run_underlying hu0, run_underlying huT1, go_sem, Result.andThen]
 have ta2 : ∀ W, (Instr.typeAssert (.iface 22 (.slice A m c)) 20 4 true).run Tryd.prog W = .ok (.tuple #[.bool false, .bool false]) W := fun W => by simp [Instr.typeAssert, run_underlying hu0, run_underlying huT2, go_sem, Result.andThen]
 have ta3 : ∀ W, (Instr.typeAssert (.iface 22 (.slice A m c)) 20 22 true).run Tryd.prog W = .ok (.tuple #[.slice A m c, .bool true]) W := fun W => by simp [Instr.typeAssert, run_underlying hu0, run_underlying huT3, go_sem, Result.andThen]
 have hcv : (convert 22 9 (.slice A m c)).run Tryd.prog ((w.alloc (.cells #[.int .i64 0, .int .i64 0, .string ⟨#[]⟩] 26)).alloc (.cells #[.int .i64 0, .int .i64 0, .string ⟨#[]⟩] 26)) = .ok (.string (strOfNums l)) _ := Kd.C_string Tryd.underlying22 Tryd.underlying5 Tryd.underlying9 (Kd.C_below hC (((Below.refl _ w).alloc (Nat.le_refl _) _).alloc (by simp) _))
 clear hT h hb2 hC
 cases b with
 | true =>
  rw [if_pos rfl, if_pos rfl, if_pos rfl, if_pos rfl]
  go_enter Tryd.func7, Tryd.ntmps7
  go_wp2_with (go_at_call 10; refine (cC _ HB2.out).mono ?_; rintro e w' ⟨rfl, hb'⟩; have y0 := (hb'.cell (p := ⟨w.heap.size + 1, 0, none⟩) (by rw [box2s]; show w.heap.size + 1 < _; omega)).trans (box2b (j := 0) rfl); have y1 := (hb'.cell (p := ⟨w.heap.size + 1, 1, none⟩) (by rw [box2s]; show w.heap.size + 1 < _; omega)).trans (box2b (j := 1) rfl); have y2 := (hb'.cell (p := ⟨w.heap.size + 1, 2, none⟩) (by rw [box2s]; show w.heap.size + 1 < _; omega)).trans (box2b (j := 2) rfl); have bx := blk_below (g := w.heap.size) (blk_below (heap_alloc_new w (.cells #[.int .i64 0, .int .i64 0, .string ⟨#[]⟩] 26)) ((Below.refl _ _).alloc (Nat.le_refl _) (.cells #[.int .i64 4, .int .i64 0, .string (strOfNums l)] 26))) hb'; have x0 := (blk_cell bx 0).trans rfl; have f0 := blk_frozen bx 0; have x1 := (blk_cell bx 1).trans rfl; have f1 := blk_frozen bx 1; have x2 := (blk_cell bx 2).trans rfl; have f2 := blk_frozen bx 2)
  have bz := blk_put (blk_put (blk_put bx 0 (.int .i64 4) rfl) 1 (.int .i64 0) rfl) 2 (.string (strOfNums l)) rfl
  have hz := (((hb'.mono (show w.heap.size ≤ _ by rw [box2s]; omega)).setCell (p := ⟨w.heap.size, 0, none⟩) (Nat.le_refl _) (.int .i64 4)).setCell (p := ⟨w.heap.size, 1, none⟩) (Nat.le_refl _) (.int .i64 0)).setCell (p := ⟨w.heap.size, 2, none⟩) (Nat.le_refl _) (.string (strOfNums l))
  refine bodyPost_ret (results_ct rfl _ _ w.heap.size 26 #[.int .i64 4, .int .i64 0, .string (strOfNums l)] (0, 0) _ rfl bz hu rfl (by kernel_rfl)) rfl ?_
  exact ⟨rfl, HB2.out.trans hz⟩
 | false =>
  rw [if_neg (by decide), if_neg (by decide), if_neg (by decide), if_neg (by decide)]
  go_enter Tryd.func7, Tryd.ntmps7
  go_wp2_with (go_at_call 10; refine (cC _ HB2.out).mono ?_; rintro e w' ⟨rfl, hb'⟩; have y0 := (hb'.cell (p := ⟨w.heap.size + 1, 0, none⟩) (by rw [box2s]; show w.heap.size + 1 < _; omega)).trans (box2b (j := 0) rfl); have y1 := (hb'.cell (p := ⟨w.heap.size + 1, 1, none⟩) (by rw [box2s]; show w.heap.size + 1 < _; omega)).trans (box2b (j := 1) rfl); have y2 := (hb'.cell (p := ⟨w.heap.size + 1, 2, none⟩) (by rw [box2s]; show w.heap.size + 1 < _; omega)).trans (box2b (j := 2) rfl); have bx := blk_below (g := w.heap.size) (blk_below (heap_alloc_new w (.cells #[.int .i64 0, .int .i64 0, .string ⟨#[]⟩] 26)) ((Below.refl _ _).alloc (Nat.le_refl _) (.cells #[.int .i64 4, .int .i64 0, .string (strOfNums l)] 26))) hb'; have x0 := (blk_cell bx 0).trans rfl; have f0 := blk_frozen bx 0; have x1 := (blk_cell bx 1).trans rfl; have f1 := blk_frozen bx 1; have x2 := (blk_cell bx 2).trans rfl; have f2 := blk_frozen bx 2)
  have bz := blk_put (blk_put (blk_put bx 0 (.int .i64 0) rfl) 1 (.int .i64 0) rfl) 2 (.string ⟨#[]⟩) rfl
  have hz := (((hb'.mono (show w.heap.size ≤ _ by rw [box2s]; omega)).setCell (p := ⟨w.heap.size, 0, none⟩) (Nat.le_refl _) (.int .i64 0)).setCell (p := ⟨w.heap.size, 1, none⟩) (Nat.le_refl _) (.int .i64 0)).setCell (p := ⟨w.heap.size, 2, none⟩) (Nat.le_refl _) (.string ⟨#[]⟩)
  refine bodyPost_ret (results_ct rfl _ _ w.heap.size 26 #[.int .i64 0, .int .i64 0, .string ⟨#[]⟩] (0, 0) _ rfl bz hu rfl (by kernel_rfl)) rfl ?_
  exact ⟨rfl, HB2.out.trans hz⟩
def value_FromB.f (l0 : List Int) : Option (Int × Int × ByteArray × Int) := (value_Check.f 4 0 (strOfNums l0)).bind fun b => some (if b = true then 4 else 0, if b = true then 0 else 0, if b = true then (strOfNums l0) else ⟨#[]⟩, if b = true then 0 else 1)
theorem value_FromB.calls (A0 : Option Addr) (c0 : Nat) (l0 : List Int) (r1 r2 : Int) (r3 : ByteArray) (r4 : Int) (w : World) (hr0 : Kd.C (Kd.int .u8) w A0 l0.length l0) (hc0 : l0.length ≤ c0) (hT : Tabs w) (h : value_FromB.f l0 = some (r1, r2, r3, r4)) :
  Calls Tryd.prog 7 #[.iface 22 (.slice A0 l0.length c0)] w fun e w' => e = .returned (.tuple #[.agg #[.int .i64 r1, .int .i64 r2, .string r3], .int .i64 r4]) ∧ Below w.heap.size w w' := by
 unfold value_FromB.f at h
 obtain ⟨b, hb, h⟩ := Option.bind_eq_some_iff.1 h
 have h := Option.some.inj h
 simp only [Prod.mk.injEq] at h
 obtain ⟨rfl, rfl, rfl, rfl⟩ := h
 exact From0B.calls A0 l0.length c0 l0 b w hr0 hT hb

/-! ### value_FromU: function 120, by hand -/
set_option maxHeartbeats 4000000 in
set_option maxRecDepth 100000 in
theorem From0U.calls (n : Int) (w : World) : Calls Tryd.prog 7 #[.iface 5 (.int .u8 n)] w fun e w' => e = .returned (.tuple #[.agg #[.int .i64 0, .int .i64 0, .string ⟨#[]⟩], .int .i64 8]) ∧ Below w.heap.size w w' := by
 have hu := Tryd.underlying26
 have hu0 := Tryd.underlying20
 have huT0 := Tryd.underlying3
 have ta0 : ∀ W, (Instr.typeAssert (.iface 5 (.int .u8 n)) 20 3 true).run Tryd.prog W = .ok (.tuple #[.int .i64 0, .bool false]) W := fun W => by simp [Instr.typeAssert, run_underlying hu0, run_underlying huT0, go_sem, Result.andThen]
 have huT1 := Tryd.underlying9
 have ta1 : ∀ W, (Instr.typeAssert (.iface 5 (.int .u8 n)) 20 9 true).run Tryd.prog W = .ok (.tuple #[.string ⟨#[]⟩, .bool false]) W := fun W => by simp [Instr.typeAssert, run_underlying hu0, run_underlying huT1, go_sem, Result.andThen]
 have huT2 := Tryd.underlying4
 have ta2 : ∀ W, (Instr.typeAssert (.iface 5 (.int .u8 n)) 20 4 true).run Tryd.prog W = .ok (.tuple #[.bool false, .bool false]) W := fun W => by simp [Instr.typeAssert, run_underlying hu0, run_underlying huT2, go_sem, Result.andThen]
 have huT3 := Tryd.underlying22
 have ta3 : ∀ W, (Instr.typeAssert (.iface 5 (.int .u8 n)) 20 22 true).run Tryd.prog W = .ok (.tuple #[.slice none 0 0, .bool false]) W := fun W => by simp [Instr.typeAssert, run_underlying hu0, run_underlying huT3, go_sem, Result.andThen]
 go_enter Tryd.func7, Tryd.ntmps7
 go_wp2
 refine bodyPost_ret (results_ct rfl _ _ w.heap.size 26 #[.int .i64 0, .int .i64 0, .string ⟨#[]⟩] (0, 0) _ rfl (blk_below (heap_alloc_new w _) ((Below.refl _ _).alloc (Nat.le_refl _) _)) hu rfl (by kernel_rfl)) rfl ?_
 exact ⟨rfl, ((Below.refl _ w).alloc (Nat.le_refl _) _).alloc (by simp) _⟩
def value_FromU.f (a0 : Int) : Option (Int × Int × ByteArray × Int) := some (0, 0, ⟨#[]⟩, 8)
theorem value_FromU.calls (a0 : Int) (r1 r2 : Int) (r3 : ByteArray) (r4 : Int) (w : World) (h : value_FromU.f a0 = some (r1, r2, r3, r4)) :
  Calls Tryd.prog 7 #[.iface 5 (.int .u8 a0)] w fun e w' => e = .returned (.tuple #[.agg #[.int .i64 r1, .int .i64 r2, .string r3], .int .i64 r4]) ∧ Below w.heap.size w w' := by
 have h := Option.some.inj h
 simp only [Prod.mk.injEq] at h
 obtain ⟨rfl, rfl, rfl, rfl⟩ := h
 exact From0U.calls a0 w

end Go.Proofs.YtlejenoibblhnaaDoor.A
