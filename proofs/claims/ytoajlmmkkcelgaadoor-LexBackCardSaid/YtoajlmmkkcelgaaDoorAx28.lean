-- By drv.py, the session's own driver round the kit's print: the machine's side of the laws, function by function. Not trusted: Lean checks it.
import Derived.Test.YtoajlmmkkcelgaaDoorAx0
import Derived.Test.YtoajlmmkkcelgaaDoorAx2
namespace Go.Proofs.YtoajlmmkkcelgaaDoor.A
open Go.RowKit Go.Proofs.YtoajlmmkkcelgaaDoorW.PrintWords Go.Proofs.YtoajlmmkkcelgaaDoorW.PrintLast Go.Proofs.YtoajlmmkkcelgaaDoorW.PrintMore
attribute [local go_sem] max2_int min2_int max_two min_two max_three min_three max_four min_four   -- for this text's walks alone
set_option linter.unusedVariables false
set_option linter.unusedSimpArgs false

attribute [local go_sem high] eqA29
/-! ### caduceusref07_Same: function 26 -/
def caduceusref07_Same.l0 : Nat → List (S81) → List (S81) → Bool → Int → Option (Bool)
 | 0, _, _, _, _ => none
 | k + 1, x0, x1, x2, x7 => if x7 < (x0.length : Int) then (if 0 ≤ x7 then (if x7 < (x1.length : Int) then (if ((rd_T81 x0 x7).f0) = ((rd_T81 x1 x7).f0) then (if ((rd_T81 x0 x7).f2).toList = ((rd_T81 x1 x7).f2).toList then (if (!(((rd_T81 x0 x7).f3.f0) == ((rd_T81 x1 x7).f3.f0)) || (!(((rd_T81 x0 x7).f3.f1) == ((rd_T81 x1 x7).f3.f1)) || (!((((rd_T81 x0 x7).f3.f2).toList) == (((rd_T81 x1 x7).f3.f2).toList))))) = true then (some false) else (if x2 = true then (caduceusref07_Same.l0 k x0 x1 x2 (wrap64 (x7 + 1))) else (if ((rd_T81 x0 x7).f1) = ((rd_T81 x1 x7).f1) then (caduceusref07_Same.l0 k x0 x1 x2 (wrap64 (x7 + 1))) else (some false)))) else (some false)) else (some false)) else (none)) else (none)) else (some true)
def caduceusref07_Same.f (k : Nat) (l0 : List (S81)) (l1 : List (S81)) (a2 : Bool) : Option (Bool) := if (l0.length : Int) = (l1.length : Int) then (caduceusref07_Same.l0 k l0 l1 a2 0) else (some false)
theorem caduceusref07_Same.mono_l : ∀ k, (∀ y0 y1 y2 y3, LeO (caduceusref07_Same.l0 k y0 y1 y2 y3) (caduceusref07_Same.l0 (k + 1) y0 y1 y2 y3))
 | 0 => fun _ _ _ _ r h => by simp [caduceusref07_Same.l0] at h
 | k + 1 => by
  have ih0 := caduceusref07_Same.mono_l k
  ·intro y0 y1 y2 y3
   unfold caduceusref07_Same.l0
   repeat' first
   | (with_reducible exact ih0 _ _ _ _)
   | (with_reducible exact LeO.refl _)
   | (with_reducible exact LeO.none _)
   | (with_reducible refine LeO.ite ?_ ?_)
   | (with_reducible refine LeO.bind ?_ (fun _ => ?_))
   | exact ih0 _ _ _ _
   | exact LeO.none _
   | refine LeO.ite ?_ ?_
   | refine LeO.bind ?_ (fun _ => ?_)
theorem caduceusref07_Same.mono : ∀ a0 a1 a2 k, LeO (caduceusref07_Same.f k a0 a1 a2) (caduceusref07_Same.f (k + 1) a0 a1 a2) := by
 intro a0 a1 a2 k
 have ih0 := caduceusref07_Same.mono_l k
 unfold caduceusref07_Same.f
 repeat' first
   | (with_reducible exact ih0 _ _ _ _)
   | (with_reducible exact LeO.refl _)
   | (with_reducible exact LeO.none _)
   | (with_reducible refine LeO.ite ?_ ?_)
   | (with_reducible refine LeO.bind ?_ (fun _ => ?_))
   | exact ih0 _ _ _ _
   | exact LeO.none _
   | refine LeO.ite ?_ ?_
   | refine LeO.bind ?_ (fun _ => ?_)
set_option maxHeartbeats 8000000 in
set_option maxRecDepth 100000 in
theorem caduceusref07_Same.calls (k : Nat) (A0 : Option Addr) (c0 : Nat) (l0 : List (S81)) (A1 : Option Addr) (c1 : Nat) (l1 : List (S81)) (a2 : Bool) (r : Bool) (w : World) (hr0 : Kd.C k81 w A0 l0.length l0) (hc0 : l0.length ≤ c0) (hr1 : Kd.C k81 w A1 l1.length l1) (hc1 : l1.length ≤ c1) (h : caduceusref07_Same.f k l0 l1 a2 = some r) :
  Calls Tryd.prog 26 #[.slice A0 l0.length c0, .slice A1 l1.length c1, .bool a2] w fun e w' => e = .returned (.bool r) ∧ Drawn0 w w' := by
 have hu29 := Tryd.underlying29
 have HR0 := Aside0.mk hr0
 have HC0 := Aside0.mk hc0
 clear hr0 hc0
 have HR1 := Aside0.mk hr1
 have HC1 := Aside0.mk hc1
 clear hr1 hc1
 have H : (if (l0.length : Int) = (l1.length : Int) then (caduceusref07_Same.l0 k l0 l1 a2 0) else (some false)) = some r := h
 clear h
 by_cases c4 : (l0.length : Int) = (l1.length : Int)
 ·rw [if_pos c4] at H
  have c4b0 : ((l0.length : Int) == (l1.length : Int)) = true := beq_iff_eq.mpr c4
  have c4b1 : ((l0.length : Int) != (l1.length : Int)) = false := bne_eq_false_iff_eq.mpr c4
  have c4b2 : (l0.length == l1.length) = true := by first | simpa using c4 | (simp at c4 ⊢; omega)
  clear c4
  have H' := Aside0.mk H
  clear H
  go_enter Tryd.func26, Tryd.ntmps26
  go_wp2
  repeat (go_quiet (fail); try go_wp2)
  go_loopg [7] k (fun kq v7 w' => ∃ (x7_1 : Int), v7 = .int .i64 x7_1 ∧ Aside0 (caduceusref07_Same.l0 kq l0 l1 a2 x7_1 = some r) ∧ Aside0 (kq ≤ k) ∧ Drawn0 w w')
  case atStart => exact ⟨(0), (by first | rfl | (simp; done) | (simp [*]; done)), H', ⟨Nat.le_refl _⟩, by repeat (first | exact Drawn0.refl _ | apply Drawn0.step)⟩
  case round =>
   clear H'
   try clear c1
   try clear c2
   try clear p2
   try clear c4
   try clear c4b0
   try clear c4b1
   try clear c4b2
   obtain ⟨x7_1, rfl, HA, HK1, ⟨m1, rfl⟩⟩ := hrel
   cases gk with
   | zero => exact absurd HA.out (by simp [caduceusref07_Same.l0])
   | succ k1 =>
    have H := HA.out
    clear HA
    simp only [caduceusref07_Same.l0] at H
    by_cases c5 : x7_1 < (l0.length : Int)
    ·rw [if_pos c5] at H
     have c5b0 : decide (x7_1 < (l0.length : Int)) = true := decide_eq_true c5
     clear c5
     by_cases c6 : 0 ≤ x7_1
     ·rw [if_pos c6] at H
      have c6b0 : decide (0 ≤ x7_1) = true := decide_eq_true c6
      clear c6
      by_cases c7 : x7_1 < (l1.length : Int)
      ·rw [if_pos c7] at H
       have c7b0 : decide (x7_1 < (l1.length : Int)) = true := decide_eq_true c7
       clear c7
       by_cases c8 : ((rd_T81 l0 x7_1).f0) = ((rd_T81 l1 x7_1).f0)
       ·rw [if_pos c8] at H
        have c8b0 : (((rd_T81 l0 x7_1).f0) == ((rd_T81 l1 x7_1).f0)) = true := beq_iff_eq.mpr c8
        have c8b1 : (((rd_T81 l0 x7_1).f0) != ((rd_T81 l1 x7_1).f0)) = false := bne_eq_false_iff_eq.mpr c8
        clear c8
        by_cases c9 : ((rd_T81 l0 x7_1).f2).toList = ((rd_T81 l1 x7_1).f2).toList
        ·rw [if_pos c9] at H
         have c9b0 : (((rd_T81 l0 x7_1).f2).toList == ((rd_T81 l1 x7_1).f2).toList) = true := beq_iff_eq.mpr c9
         have c9b1 : (((rd_T81 l0 x7_1).f2).toList != ((rd_T81 l1 x7_1).f2).toList) = false := bne_eq_false_iff_eq.mpr c9
         clear c9
         by_cases c10 : (!(((rd_T81 l0 x7_1).f3.f0) == ((rd_T81 l1 x7_1).f3.f0)) || (!(((rd_T81 l0 x7_1).f3.f1) == ((rd_T81 l1 x7_1).f3.f1)) || (!((((rd_T81 l0 x7_1).f3.f2).toList) == (((rd_T81 l1 x7_1).f3.f2).toList))))) = true
         ·rw [if_pos c10] at H
          have c10b0 : (!(((rd_T81 l0 x7_1).f3.f0) == ((rd_T81 l1 x7_1).f3.f0)) || (!(((rd_T81 l0 x7_1).f3.f1) == ((rd_T81 l1 x7_1).f3.f1)) || (!((((rd_T81 l0 x7_1).f3.f2).toList) == (((rd_T81 l1 x7_1).f3.f2).toList))))) = true := c10
          clear c10
          obtain rfl := Option.some.inj H
          have p647 : 0 ≤ (x7_1 : Int) := of_decide_eq_true (by first | (with_reducible assumption) | assumption)
          have q647 : x7_1 < (l0.length : Int) := of_decide_eq_true (by first | (with_reducible assumption) | assumption)
          obtain ⟨ad647, e647, hx647_0, hx647_1, hx647_2, hx647_3, hx647_4, hx647_5⟩ := at_T81 HR0.out x7_1 p647 q647
          cases e647
          replace p647 := eq_true p647
          replace q647 := eq_true q647
          have p648 : 0 ≤ (x7_1 : Int) := of_decide_eq_true (by first | (with_reducible assumption) | assumption)
          have q648 : x7_1 < (l1.length : Int) := of_decide_eq_true (by first | (with_reducible assumption) | assumption)
          obtain ⟨ad648, e648, hx648_0, hx648_1, hx648_2, hx648_3, hx648_4, hx648_5⟩ := at_T81 HR1.out x7_1 p648 q648
          cases e648
          replace p648 := eq_true p648
          replace q648 := eq_true q648
          have p649 : 0 ≤ (x7_1 : Int) := of_decide_eq_true (by first | (with_reducible assumption) | assumption)
          have q649 : x7_1 < (l0.length : Int) := of_decide_eq_true (by first | (with_reducible assumption) | assumption)
          obtain ⟨ad649, e649, hx649_0, hx649_1, hx649_2, hx649_3, hx649_4, hx649_5⟩ := at_T81 HR0.out x7_1 p649 q649
          obtain rfl : ad647 = ad649 := (by injection e649)
          replace p649 := eq_true p649
          replace q649 := eq_true q649
          have p650 : 0 ≤ (x7_1 : Int) := of_decide_eq_true (by first | (with_reducible assumption) | assumption)
          have q650 : x7_1 < (l1.length : Int) := of_decide_eq_true (by first | (with_reducible assumption) | assumption)
          obtain ⟨ad650, e650, hx650_0, hx650_1, hx650_2, hx650_3, hx650_4, hx650_5⟩ := at_T81 HR1.out x7_1 p650 q650
          obtain rfl : ad648 = ad650 := (by injection e650)
          replace p650 := eq_true p650
          replace q650 := eq_true q650
          have p651 : 0 ≤ (x7_1 : Int) := of_decide_eq_true (by first | (with_reducible assumption) | assumption)
          have q651 : x7_1 < (l0.length : Int) := of_decide_eq_true (by first | (with_reducible assumption) | assumption)
          obtain ⟨ad651, e651, hx651_0, hx651_1, hx651_2, hx651_3, hx651_4, hx651_5⟩ := at_T81 HR0.out x7_1 p651 q651
          obtain rfl : ad647 = ad651 := (by injection e651)
          replace p651 := eq_true p651
          replace q651 := eq_true q651
          have p652 : 0 ≤ (x7_1 : Int) := of_decide_eq_true (by first | (with_reducible assumption) | assumption)
          have q652 : x7_1 < (l1.length : Int) := of_decide_eq_true (by first | (with_reducible assumption) | assumption)
          obtain ⟨ad652, e652, hx652_0, hx652_1, hx652_2, hx652_3, hx652_4, hx652_5⟩ := at_T81 HR1.out x7_1 p652 q652
          obtain rfl : ad648 = ad652 := (by injection e652)
          replace p652 := eq_true p652
          replace q652 := eq_true q652
          go_wp2
          repeat (go_quiet (fail); try go_wp2)
          go_ret
          exact ⟨by first | rfl | (simp; done) | (simp [*]; done) | (simp [wrap64]; done), by repeat (first | exact Drawn0.refl _ | apply Drawn0.step)⟩
         ·rw [if_neg c10] at H
          have c10b0 : (!(((rd_T81 l0 x7_1).f3.f0) == ((rd_T81 l1 x7_1).f3.f0)) || (!(((rd_T81 l0 x7_1).f3.f1) == ((rd_T81 l1 x7_1).f3.f1)) || (!((((rd_T81 l0 x7_1).f3.f2).toList) == (((rd_T81 l1 x7_1).f3.f2).toList))))) = false := by simpa using c10
          clear c10
          by_cases c11 : a2 = true
          ·subst c11
           have H1 : (caduceusref07_Same.l0 k1 l0 l1 true (wrap64 (x7_1 + 1))) = some r := by rw [if_pos rfl] at H; exact H
           clear H
           have H := H1
           clear H1
           have H' := Aside0.mk H
           clear H
           have p647 : 0 ≤ (x7_1 : Int) := of_decide_eq_true (by first | (with_reducible assumption) | assumption)
           have q647 : x7_1 < (l0.length : Int) := of_decide_eq_true (by first | (with_reducible assumption) | assumption)
           obtain ⟨ad647, e647, hx647_0, hx647_1, hx647_2, hx647_3, hx647_4, hx647_5⟩ := at_T81 HR0.out x7_1 p647 q647
           cases e647
           replace p647 := eq_true p647
           replace q647 := eq_true q647
           have p648 : 0 ≤ (x7_1 : Int) := of_decide_eq_true (by first | (with_reducible assumption) | assumption)
           have q648 : x7_1 < (l1.length : Int) := of_decide_eq_true (by first | (with_reducible assumption) | assumption)
           obtain ⟨ad648, e648, hx648_0, hx648_1, hx648_2, hx648_3, hx648_4, hx648_5⟩ := at_T81 HR1.out x7_1 p648 q648
           cases e648
           replace p648 := eq_true p648
           replace q648 := eq_true q648
           have p649 : 0 ≤ (x7_1 : Int) := of_decide_eq_true (by first | (with_reducible assumption) | assumption)
           have q649 : x7_1 < (l0.length : Int) := of_decide_eq_true (by first | (with_reducible assumption) | assumption)
           obtain ⟨ad649, e649, hx649_0, hx649_1, hx649_2, hx649_3, hx649_4, hx649_5⟩ := at_T81 HR0.out x7_1 p649 q649
           obtain rfl : ad647 = ad649 := (by injection e649)
           replace p649 := eq_true p649
           replace q649 := eq_true q649
           have p650 : 0 ≤ (x7_1 : Int) := of_decide_eq_true (by first | (with_reducible assumption) | assumption)
           have q650 : x7_1 < (l1.length : Int) := of_decide_eq_true (by first | (with_reducible assumption) | assumption)
           obtain ⟨ad650, e650, hx650_0, hx650_1, hx650_2, hx650_3, hx650_4, hx650_5⟩ := at_T81 HR1.out x7_1 p650 q650
           obtain rfl : ad648 = ad650 := (by injection e650)
           replace p650 := eq_true p650
           replace q650 := eq_true q650
           have p651 : 0 ≤ (x7_1 : Int) := of_decide_eq_true (by first | (with_reducible assumption) | assumption)
           have q651 : x7_1 < (l0.length : Int) := of_decide_eq_true (by first | (with_reducible assumption) | assumption)
           obtain ⟨ad651, e651, hx651_0, hx651_1, hx651_2, hx651_3, hx651_4, hx651_5⟩ := at_T81 HR0.out x7_1 p651 q651
           obtain rfl : ad647 = ad651 := (by injection e651)
           replace p651 := eq_true p651
           replace q651 := eq_true q651
           have p652 : 0 ≤ (x7_1 : Int) := of_decide_eq_true (by first | (with_reducible assumption) | assumption)
           have q652 : x7_1 < (l1.length : Int) := of_decide_eq_true (by first | (with_reducible assumption) | assumption)
           obtain ⟨ad652, e652, hx652_0, hx652_1, hx652_2, hx652_3, hx652_4, hx652_5⟩ := at_T81 HR1.out x7_1 p652 q652
           obtain rfl : ad648 = ad652 := (by injection e652)
           replace p652 := eq_true p652
           replace q652 := eq_true q652
           go_wp2
           repeat (go_quiet (fail); try go_wp2)
           go_roundg k1
           case measure => have := HK1.out; omega
           case rel => exact ⟨(wrap64 (x7_1 + 1)), (by first | rfl | (simp; done) | (simp [*]; done)), H', ⟨by have := HK1.out; omega⟩, by repeat (first | exact Drawn0.refl _ | apply Drawn0.step)⟩
          ·replace c11 := Bool.eq_false_iff.mpr c11
           subst c11
           have H1 : (if ((rd_T81 l0 x7_1).f1) = ((rd_T81 l1 x7_1).f1) then (caduceusref07_Same.l0 k1 l0 l1 false (wrap64 (x7_1 + 1))) else (some false)) = some r := by rw [if_neg (show ¬ (false = true) by decide)] at H; exact H
           clear H
           have H := H1
           clear H1
           by_cases c12 : ((rd_T81 l0 x7_1).f1) = ((rd_T81 l1 x7_1).f1)
           ·rw [if_pos c12] at H
            have c12b0 : (((rd_T81 l0 x7_1).f1) == ((rd_T81 l1 x7_1).f1)) = true := beq_iff_eq.mpr c12
            have c12b1 : (((rd_T81 l0 x7_1).f1) != ((rd_T81 l1 x7_1).f1)) = false := bne_eq_false_iff_eq.mpr c12
            clear c12
            have H' := Aside0.mk H
            clear H
            have p647 : 0 ≤ (x7_1 : Int) := of_decide_eq_true (by first | (with_reducible assumption) | assumption)
            have q647 : x7_1 < (l0.length : Int) := of_decide_eq_true (by first | (with_reducible assumption) | assumption)
            obtain ⟨ad647, e647, hx647_0, hx647_1, hx647_2, hx647_3, hx647_4, hx647_5⟩ := at_T81 HR0.out x7_1 p647 q647
            cases e647
            replace p647 := eq_true p647
            replace q647 := eq_true q647
            have p648 : 0 ≤ (x7_1 : Int) := of_decide_eq_true (by first | (with_reducible assumption) | assumption)
            have q648 : x7_1 < (l1.length : Int) := of_decide_eq_true (by first | (with_reducible assumption) | assumption)
            obtain ⟨ad648, e648, hx648_0, hx648_1, hx648_2, hx648_3, hx648_4, hx648_5⟩ := at_T81 HR1.out x7_1 p648 q648
            cases e648
            replace p648 := eq_true p648
            replace q648 := eq_true q648
            have p649 : 0 ≤ (x7_1 : Int) := of_decide_eq_true (by first | (with_reducible assumption) | assumption)
            have q649 : x7_1 < (l0.length : Int) := of_decide_eq_true (by first | (with_reducible assumption) | assumption)
            obtain ⟨ad649, e649, hx649_0, hx649_1, hx649_2, hx649_3, hx649_4, hx649_5⟩ := at_T81 HR0.out x7_1 p649 q649
            obtain rfl : ad647 = ad649 := (by injection e649)
            replace p649 := eq_true p649
            replace q649 := eq_true q649
            have p650 : 0 ≤ (x7_1 : Int) := of_decide_eq_true (by first | (with_reducible assumption) | assumption)
            have q650 : x7_1 < (l1.length : Int) := of_decide_eq_true (by first | (with_reducible assumption) | assumption)
            obtain ⟨ad650, e650, hx650_0, hx650_1, hx650_2, hx650_3, hx650_4, hx650_5⟩ := at_T81 HR1.out x7_1 p650 q650
            obtain rfl : ad648 = ad650 := (by injection e650)
            replace p650 := eq_true p650
            replace q650 := eq_true q650
            have p651 : 0 ≤ (x7_1 : Int) := of_decide_eq_true (by first | (with_reducible assumption) | assumption)
            have q651 : x7_1 < (l0.length : Int) := of_decide_eq_true (by first | (with_reducible assumption) | assumption)
            obtain ⟨ad651, e651, hx651_0, hx651_1, hx651_2, hx651_3, hx651_4, hx651_5⟩ := at_T81 HR0.out x7_1 p651 q651
            obtain rfl : ad647 = ad651 := (by injection e651)
            replace p651 := eq_true p651
            replace q651 := eq_true q651
            have p652 : 0 ≤ (x7_1 : Int) := of_decide_eq_true (by first | (with_reducible assumption) | assumption)
            have q652 : x7_1 < (l1.length : Int) := of_decide_eq_true (by first | (with_reducible assumption) | assumption)
            obtain ⟨ad652, e652, hx652_0, hx652_1, hx652_2, hx652_3, hx652_4, hx652_5⟩ := at_T81 HR1.out x7_1 p652 q652
            obtain rfl : ad648 = ad652 := (by injection e652)
            replace p652 := eq_true p652
            replace q652 := eq_true q652
            have p653 : 0 ≤ (x7_1 : Int) := of_decide_eq_true (by first | (with_reducible assumption) | assumption)
            have q653 : x7_1 < (l0.length : Int) := of_decide_eq_true (by first | (with_reducible assumption) | assumption)
            obtain ⟨ad653, e653, hx653_0, hx653_1, hx653_2, hx653_3, hx653_4, hx653_5⟩ := at_T81 HR0.out x7_1 p653 q653
            obtain rfl : ad647 = ad653 := (by injection e653)
            replace p653 := eq_true p653
            replace q653 := eq_true q653
            have p654 : 0 ≤ (x7_1 : Int) := of_decide_eq_true (by first | (with_reducible assumption) | assumption)
            have q654 : x7_1 < (l1.length : Int) := of_decide_eq_true (by first | (with_reducible assumption) | assumption)
            obtain ⟨ad654, e654, hx654_0, hx654_1, hx654_2, hx654_3, hx654_4, hx654_5⟩ := at_T81 HR1.out x7_1 p654 q654
            obtain rfl : ad648 = ad654 := (by injection e654)
            replace p654 := eq_true p654
            replace q654 := eq_true q654
            go_wp2
            repeat (go_quiet (fail); try go_wp2)
            go_roundg k1
            case measure => have := HK1.out; omega
            case rel => exact ⟨(wrap64 (x7_1 + 1)), (by first | rfl | (simp; done) | (simp [*]; done)), H', ⟨by have := HK1.out; omega⟩, by repeat (first | exact Drawn0.refl _ | apply Drawn0.step)⟩
           ·rw [if_neg c12] at H
            have c12b0 : (((rd_T81 l0 x7_1).f1) == ((rd_T81 l1 x7_1).f1)) = false := beq_eq_false_iff_ne.mpr c12
            have c12b1 : (((rd_T81 l0 x7_1).f1) != ((rd_T81 l1 x7_1).f1)) = true := bne_iff_ne.mpr c12
            obtain rfl := Option.some.inj H
            have p647 : 0 ≤ (x7_1 : Int) := of_decide_eq_true (by first | (with_reducible assumption) | assumption)
            have q647 : x7_1 < (l0.length : Int) := of_decide_eq_true (by first | (with_reducible assumption) | assumption)
            obtain ⟨ad647, e647, hx647_0, hx647_1, hx647_2, hx647_3, hx647_4, hx647_5⟩ := at_T81 HR0.out x7_1 p647 q647
            cases e647
            replace p647 := eq_true p647
            replace q647 := eq_true q647
            have p648 : 0 ≤ (x7_1 : Int) := of_decide_eq_true (by first | (with_reducible assumption) | assumption)
            have q648 : x7_1 < (l1.length : Int) := of_decide_eq_true (by first | (with_reducible assumption) | assumption)
            obtain ⟨ad648, e648, hx648_0, hx648_1, hx648_2, hx648_3, hx648_4, hx648_5⟩ := at_T81 HR1.out x7_1 p648 q648
            cases e648
            replace p648 := eq_true p648
            replace q648 := eq_true q648
            have p649 : 0 ≤ (x7_1 : Int) := of_decide_eq_true (by first | (with_reducible assumption) | assumption)
            have q649 : x7_1 < (l0.length : Int) := of_decide_eq_true (by first | (with_reducible assumption) | assumption)
            obtain ⟨ad649, e649, hx649_0, hx649_1, hx649_2, hx649_3, hx649_4, hx649_5⟩ := at_T81 HR0.out x7_1 p649 q649
            obtain rfl : ad647 = ad649 := (by injection e649)
            replace p649 := eq_true p649
            replace q649 := eq_true q649
            have p650 : 0 ≤ (x7_1 : Int) := of_decide_eq_true (by first | (with_reducible assumption) | assumption)
            have q650 : x7_1 < (l1.length : Int) := of_decide_eq_true (by first | (with_reducible assumption) | assumption)
            obtain ⟨ad650, e650, hx650_0, hx650_1, hx650_2, hx650_3, hx650_4, hx650_5⟩ := at_T81 HR1.out x7_1 p650 q650
            obtain rfl : ad648 = ad650 := (by injection e650)
            replace p650 := eq_true p650
            replace q650 := eq_true q650
            have p651 : 0 ≤ (x7_1 : Int) := of_decide_eq_true (by first | (with_reducible assumption) | assumption)
            have q651 : x7_1 < (l0.length : Int) := of_decide_eq_true (by first | (with_reducible assumption) | assumption)
            obtain ⟨ad651, e651, hx651_0, hx651_1, hx651_2, hx651_3, hx651_4, hx651_5⟩ := at_T81 HR0.out x7_1 p651 q651
            obtain rfl : ad647 = ad651 := (by injection e651)
            replace p651 := eq_true p651
            replace q651 := eq_true q651
            have p652 : 0 ≤ (x7_1 : Int) := of_decide_eq_true (by first | (with_reducible assumption) | assumption)
            have q652 : x7_1 < (l1.length : Int) := of_decide_eq_true (by first | (with_reducible assumption) | assumption)
            obtain ⟨ad652, e652, hx652_0, hx652_1, hx652_2, hx652_3, hx652_4, hx652_5⟩ := at_T81 HR1.out x7_1 p652 q652
            obtain rfl : ad648 = ad652 := (by injection e652)
            replace p652 := eq_true p652
            replace q652 := eq_true q652
            have p653 : 0 ≤ (x7_1 : Int) := of_decide_eq_true (by first | (with_reducible assumption) | assumption)
            have q653 : x7_1 < (l0.length : Int) := of_decide_eq_true (by first | (with_reducible assumption) | assumption)
            obtain ⟨ad653, e653, hx653_0, hx653_1, hx653_2, hx653_3, hx653_4, hx653_5⟩ := at_T81 HR0.out x7_1 p653 q653
            obtain rfl : ad647 = ad653 := (by injection e653)
            replace p653 := eq_true p653
            replace q653 := eq_true q653
            have p654 : 0 ≤ (x7_1 : Int) := of_decide_eq_true (by first | (with_reducible assumption) | assumption)
            have q654 : x7_1 < (l1.length : Int) := of_decide_eq_true (by first | (with_reducible assumption) | assumption)
            obtain ⟨ad654, e654, hx654_0, hx654_1, hx654_2, hx654_3, hx654_4, hx654_5⟩ := at_T81 HR1.out x7_1 p654 q654
            obtain rfl : ad648 = ad654 := (by injection e654)
            replace p654 := eq_true p654
            replace q654 := eq_true q654
            go_wp2
            repeat (go_quiet (fail); try go_wp2)
            go_ret
            exact ⟨by first | rfl | (simp; done) | (simp [*]; done) | (simp [wrap64]; done), by repeat (first | exact Drawn0.refl _ | apply Drawn0.step)⟩
        ·rw [if_neg c9] at H
         have c9b0 : (((rd_T81 l0 x7_1).f2).toList == ((rd_T81 l1 x7_1).f2).toList) = false := beq_eq_false_iff_ne.mpr c9
         have c9b1 : (((rd_T81 l0 x7_1).f2).toList != ((rd_T81 l1 x7_1).f2).toList) = true := bne_iff_ne.mpr c9
         obtain rfl := Option.some.inj H
         have p647 : 0 ≤ (x7_1 : Int) := of_decide_eq_true (by first | (with_reducible assumption) | assumption)
         have q647 : x7_1 < (l0.length : Int) := of_decide_eq_true (by first | (with_reducible assumption) | assumption)
         obtain ⟨ad647, e647, hx647_0, hx647_1, hx647_2, hx647_3, hx647_4, hx647_5⟩ := at_T81 HR0.out x7_1 p647 q647
         cases e647
         replace p647 := eq_true p647
         replace q647 := eq_true q647
         have p648 : 0 ≤ (x7_1 : Int) := of_decide_eq_true (by first | (with_reducible assumption) | assumption)
         have q648 : x7_1 < (l1.length : Int) := of_decide_eq_true (by first | (with_reducible assumption) | assumption)
         obtain ⟨ad648, e648, hx648_0, hx648_1, hx648_2, hx648_3, hx648_4, hx648_5⟩ := at_T81 HR1.out x7_1 p648 q648
         cases e648
         replace p648 := eq_true p648
         replace q648 := eq_true q648
         have p649 : 0 ≤ (x7_1 : Int) := of_decide_eq_true (by first | (with_reducible assumption) | assumption)
         have q649 : x7_1 < (l0.length : Int) := of_decide_eq_true (by first | (with_reducible assumption) | assumption)
         obtain ⟨ad649, e649, hx649_0, hx649_1, hx649_2, hx649_3, hx649_4, hx649_5⟩ := at_T81 HR0.out x7_1 p649 q649
         obtain rfl : ad647 = ad649 := (by injection e649)
         replace p649 := eq_true p649
         replace q649 := eq_true q649
         have p650 : 0 ≤ (x7_1 : Int) := of_decide_eq_true (by first | (with_reducible assumption) | assumption)
         have q650 : x7_1 < (l1.length : Int) := of_decide_eq_true (by first | (with_reducible assumption) | assumption)
         obtain ⟨ad650, e650, hx650_0, hx650_1, hx650_2, hx650_3, hx650_4, hx650_5⟩ := at_T81 HR1.out x7_1 p650 q650
         obtain rfl : ad648 = ad650 := (by injection e650)
         replace p650 := eq_true p650
         replace q650 := eq_true q650
         go_wp2
         repeat (go_quiet (fail); try go_wp2)
         go_ret
         exact ⟨by first | rfl | (simp; done) | (simp [*]; done) | (simp [wrap64]; done), by repeat (first | exact Drawn0.refl _ | apply Drawn0.step)⟩
       ·rw [if_neg c8] at H
        have c8b0 : (((rd_T81 l0 x7_1).f0) == ((rd_T81 l1 x7_1).f0)) = false := beq_eq_false_iff_ne.mpr c8
        have c8b1 : (((rd_T81 l0 x7_1).f0) != ((rd_T81 l1 x7_1).f0)) = true := bne_iff_ne.mpr c8
        obtain rfl := Option.some.inj H
        have p647 : 0 ≤ (x7_1 : Int) := of_decide_eq_true (by first | (with_reducible assumption) | assumption)
        have q647 : x7_1 < (l0.length : Int) := of_decide_eq_true (by first | (with_reducible assumption) | assumption)
        obtain ⟨ad647, e647, hx647_0, hx647_1, hx647_2, hx647_3, hx647_4, hx647_5⟩ := at_T81 HR0.out x7_1 p647 q647
        cases e647
        replace p647 := eq_true p647
        replace q647 := eq_true q647
        have p648 : 0 ≤ (x7_1 : Int) := of_decide_eq_true (by first | (with_reducible assumption) | assumption)
        have q648 : x7_1 < (l1.length : Int) := of_decide_eq_true (by first | (with_reducible assumption) | assumption)
        obtain ⟨ad648, e648, hx648_0, hx648_1, hx648_2, hx648_3, hx648_4, hx648_5⟩ := at_T81 HR1.out x7_1 p648 q648
        cases e648
        replace p648 := eq_true p648
        replace q648 := eq_true q648
        go_wp2
        repeat (go_quiet (fail); try go_wp2)
        go_ret
        exact ⟨by first | rfl | (simp; done) | (simp [*]; done) | (simp [wrap64]; done), by repeat (first | exact Drawn0.refl _ | apply Drawn0.step)⟩
      ·rw [if_neg c7] at H
       exact absurd H (by simp)
     ·rw [if_neg c6] at H
      exact absurd H (by simp)
    ·rw [if_neg c5] at H
     have c5b0 : decide (x7_1 < (l0.length : Int)) = false := decide_eq_false c5
     clear c5
     obtain rfl := Option.some.inj H
     go_wp2
     repeat (go_quiet (fail); try go_wp2)
     go_ret
     exact ⟨by first | rfl | (simp; done) | (simp [*]; done) | (simp [wrap64]; done), by repeat (first | exact Drawn0.refl _ | apply Drawn0.step)⟩
 ·rw [if_neg c4] at H
  have c4b0 : ((l0.length : Int) == (l1.length : Int)) = false := beq_eq_false_iff_ne.mpr c4
  have c4b1 : ((l0.length : Int) != (l1.length : Int)) = true := bne_iff_ne.mpr c4
  have c4b2 : (l0.length == l1.length) = false := by first | simpa using c4 | (simp at c4 ⊢; omega)
  obtain rfl := Option.some.inj H
  go_enter Tryd.func26, Tryd.ntmps26
  go_wp2
  repeat (go_quiet (fail); try go_wp2)
  go_ret
  exact ⟨by first | rfl | (simp; done) | (simp [*]; done) | (simp [wrap64]; done), by repeat (first | exact Drawn0.refl _ | apply Drawn0.step)⟩

end Go.Proofs.YtoajlmmkkcelgaaDoor.A
