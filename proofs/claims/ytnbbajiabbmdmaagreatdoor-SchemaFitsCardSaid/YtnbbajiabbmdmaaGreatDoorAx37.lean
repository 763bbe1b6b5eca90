-- By drv.py, the session's own driver round the kit's print: the machine's side of the laws, function by function. Not trusted: Lean checks it.
import Derived.Test.YtnbbajiabbmdmaaGreatDoorAx0
import Derived.Test.YtnbbajiabbmdmaaGreatDoorAx35
namespace Go.Proofs.YtnbbajiabbmdmaaGreatDoor.A
open Go.RowKit Go.Proofs.YtnbbajiabbmdmaaGreatDoorW.PrintWords Go.Proofs.YtnbbajiabbmdmaaGreatDoorW.PrintLast Go.Proofs.YtnbbajiabbmdmaaGreatDoorW.PrintMore
attribute [local go_sem] max2_int min2_int max_two min_two max_three min_three max_four min_four   -- for this text's walks alone
set_option linter.unusedVariables false
set_option linter.unusedSimpArgs false

/-! ### caduceusref04_Find: function 50 -/
def caduceusref04_Find.l0 : Nat → List (S72) → ByteArray → Int → Option (Int)
 | 0, _, _, _ => none
 | k + 1, x0, x1, x5 => if x5 < (x0.length : Int) then (if 0 ≤ x5 then ((caduceusref04_same.f k ((rd_T72 x0 x5).f0) x1).bind fun t348 => (if t348 = true then (some x5) else (caduceusref04_Find.l0 k x0 x1 (wrap64 (x5 + 1))))) else (none)) else (some (-1))
def caduceusref04_Find.f (k : Nat) (l0 : List (S72)) (a1 : ByteArray) : Option (Int) := caduceusref04_Find.l0 k l0 a1 0
theorem caduceusref04_Find.mono_l : ∀ k, (∀ y0 y1 y2, LeO (caduceusref04_Find.l0 k y0 y1 y2) (caduceusref04_Find.l0 (k + 1) y0 y1 y2))
 | 0 => fun _ _ _ r h => by simp [caduceusref04_Find.l0] at h
 | k + 1 => by
  have ih0 := caduceusref04_Find.mono_l k
  ·intro y0 y1 y2
   unfold caduceusref04_Find.l0
   repeat' first
   | (with_reducible exact ih0 _ _ _)
   | (with_reducible exact caduceusref04_same.mono _ _ _)
   | (with_reducible exact LeO.refl _)
   | (with_reducible exact LeO.none _)
   | (with_reducible refine LeO.ite ?_ ?_)
   | (with_reducible refine LeO.bind ?_ (fun _ => ?_))
   | exact ih0 _ _ _
   | exact caduceusref04_same.mono _ _ _
   | exact LeO.none _
   | refine LeO.ite ?_ ?_
   | refine LeO.bind ?_ (fun _ => ?_)
theorem caduceusref04_Find.mono : ∀ a0 a1 k, LeO (caduceusref04_Find.f k a0 a1) (caduceusref04_Find.f (k + 1) a0 a1) := by
 intro a0 a1 k
 have ih0 := caduceusref04_Find.mono_l k
 unfold caduceusref04_Find.f
 repeat' first
   | (with_reducible exact ih0 _ _ _)
   | (with_reducible exact caduceusref04_same.mono _ _ _)
   | (with_reducible exact LeO.refl _)
   | (with_reducible exact LeO.none _)
   | (with_reducible refine LeO.ite ?_ ?_)
   | (with_reducible refine LeO.bind ?_ (fun _ => ?_))
   | exact ih0 _ _ _
   | exact caduceusref04_same.mono _ _ _
   | exact LeO.none _
   | refine LeO.ite ?_ ?_
   | refine LeO.bind ?_ (fun _ => ?_)
set_option maxHeartbeats 8000000 in
set_option maxRecDepth 100000 in
theorem caduceusref04_Find.calls (k : Nat) (A0 : Option Addr) (c0 : Nat) (l0 : List (S72)) (a1 : ByteArray) (r : Int) (w : World) (hr0 : Kd.C k72 w A0 l0.length l0) (hc0 : l0.length ≤ c0) (h : caduceusref04_Find.f k l0 a1 = some r) :
  Calls Tryz.prog 50 #[.slice A0 l0.length c0, .string a1] w fun e w' => e = .returned (.int .i64 r) ∧ Below w.heap.size w w' := by
 have HR0 := Aside0.mk hr0
 have HC0 := Aside0.mk hc0
 clear hr0 hc0
 have HB := Aside0.mk (Below.refl w.heap.size w)
 have H : (caduceusref04_Find.l0 k l0 a1 0) = some r := h
 clear h
 have H' := Aside0.mk H
 clear H
 go_enter Tryz.func50, Tryz.ntmps50
 go_wp2
 go_loopg [5] k (fun kq v5 w' => ∃ (x5_1 : Int), v5 = .int .i64 x5_1 ∧ Aside0 (caduceusref04_Find.l0 kq l0 a1 x5_1 = some r) ∧ Aside0 (kq ≤ k) ∧ Aside0 (Below w.heap.size w w'))
 case atStart => exact ⟨(0), (endS), H', ⟨Nat.le_refl _⟩, ⟨bwA⟩⟩
 case round =>
  clear H'
  try clear p2
  obtain ⟨x5_1, rfl, HA, HK1, HB⟩ := hrel
  cases gk with
  | zero => exact absurd HA.out (by simp [caduceusref04_Find.l0])
  | succ k1 =>
   have H := HA.out
   clear HA
   simp only [caduceusref04_Find.l0] at H
   by_cases c3 : x5_1 < (l0.length : Int)
   ·rw [if_pos c3] at H
    have c3b0 : decide (x5_1 < (l0.length : Int)) = true := decide_eq_true c3
    clear c3
    by_cases c4 : 0 ≤ x5_1
    ·rw [if_pos c4] at H
     have c4b0 : decide (0 ≤ x5_1) = true := decide_eq_true c4
     clear c4
     replace H := Option.bind_eq_some_iff.mp H
     obtain ⟨t348, A50, H⟩ := H
     replace H : (if t348 = true then (some x5_1) else (caduceusref04_Find.l0 k1 l0 a1 (wrap64 (x5_1 + 1)))) = some r := H
     have A5 := Aside0.mk A50
     clear A50
     by_cases c6 : t348 = true
     ·subst c6
      have H1 : (some x5_1) = some r := by rw [if_pos rfl] at H; exact H
      clear H
      have H := H1
      clear H1
      obtain rfl := Option.some.inj H
      have p347 : 0 ≤ (x5_1 : Int) := odA
      have q347 : x5_1 < (l0.length : Int) := odA
      obtain ⟨ad347, e347, hx347_0, hx347_1, hx347_2⟩ := at_T72 HR0.out x5_1 p347 q347
      cases e347
      replace hx347_0 := crA hx347_0
      replace hx347_1 := crA hx347_1
      replace hx347_2 := crA hx347_2
      replace p347 := eq_true p347
      replace q347 := eq_true q347
      go_wp2_with (first | ((with_reducible refine gate_callee (f := 43) rfl ?_); refine goesA (some 18) Tryz.func43 #[.string ((rd_T72 l0 x5_1).f0), .string a1] ?_; (with_reducible refine (caduceusref04_same.calls k1 ((rd_T72 l0 x5_1).f0) a1 true _ A5.out).mono ?_); rintro e w7 ⟨rfl, hb⟩; refine ⟨_, rfl, ?_⟩; have n0_ := Aside0.mk (below_step (bwA) hb); clear HB; have HB := n0_; clear n0_; (try clear hb); (try clear hb2); (try clear hk); (try clear hi)))
      go_ret
      exact ⟨endA, bwA⟩
     ·replace c6 := Bool.eq_false_iff.mpr c6
      subst c6
      have H1 : (caduceusref04_Find.l0 k1 l0 a1 (wrap64 (x5_1 + 1))) = some r := by rw [if_neg (show ¬ (false = true) by decide)] at H; exact H
      clear H
      have H := H1
      clear H1
      have H' := Aside0.mk H
      clear H
      have p347 : 0 ≤ (x5_1 : Int) := odA
      have q347 : x5_1 < (l0.length : Int) := odA
      obtain ⟨ad347, e347, hx347_0, hx347_1, hx347_2⟩ := at_T72 HR0.out x5_1 p347 q347
      cases e347
      replace hx347_0 := crA hx347_0
      replace hx347_1 := crA hx347_1
      replace hx347_2 := crA hx347_2
      replace p347 := eq_true p347
      replace q347 := eq_true q347
      go_wp2_with (first | ((with_reducible refine gate_callee (f := 43) rfl ?_); refine goesA (some 18) Tryz.func43 #[.string ((rd_T72 l0 x5_1).f0), .string a1] ?_; (with_reducible refine (caduceusref04_same.calls k1 ((rd_T72 l0 x5_1).f0) a1 false _ A5.out).mono ?_); rintro e w8 ⟨rfl, hb⟩; refine ⟨_, rfl, ?_⟩; have n0_ := Aside0.mk (below_step (bwA) hb); clear HB; have HB := n0_; clear n0_; (try clear hb); (try clear hb2); (try clear hk); (try clear hi)))
      go_roundg k1
      case measure => have := HK1.out; omega
      case rel => exact ⟨(wrap64 (x5_1 + 1)), (endS), H', ⟨by have := HK1.out; omega⟩, ⟨bwA⟩⟩
    ·rw [if_neg c4] at H
     exact absurd H (by simp)
   ·rw [if_neg c3] at H
    have c3b0 : decide (x5_1 < (l0.length : Int)) = false := decide_eq_false c3
    clear c3
    obtain rfl := Option.some.inj H
    go_wp2
    go_ret
    exact ⟨endA, bwA⟩

end Go.Proofs.YtnbbajiabbmdmaaGreatDoor.A
