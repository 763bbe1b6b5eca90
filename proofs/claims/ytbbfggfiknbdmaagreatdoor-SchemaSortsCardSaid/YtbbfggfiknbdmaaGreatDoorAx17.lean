-- By drv.py, the session's own driver round the kit's print: the machine's side of the laws, function by function. Not trusted: Lean checks it.
import Derived.Test.YtbbfggfiknbdmaaGreatDoorAx0
namespace Go.Proofs.YtbbfggfiknbdmaaGreatDoor.A
open Go.RowKit Go.Proofs.YtbbfggfiknbdmaaGreatDoorW.PrintWords Go.Proofs.YtbbfggfiknbdmaaGreatDoorW.PrintLast Go.Proofs.YtbbfggfiknbdmaaGreatDoorW.PrintMore
attribute [local go_sem] max2_int min2_int max_two min_two max_three min_three max_four min_four   -- for this text's walks alone
set_option linter.unusedVariables false
set_option linter.unusedSimpArgs false

/-! ### caduceusref02_Letter: function 99 -/
mutual
def caduceusref02_Letter.j0 : Nat → Int → Bool → Option (Bool)
 | 0, _, _ => none
 | k + 1, x0, x16 => if x16 = true then (some true) else (if x0 ≥ 192 then (caduceusref02_Letter.j1 k x0 (decide (x0 ≤ 591))) else (caduceusref02_Letter.j1 k x0 false))
def caduceusref02_Letter.j1 : Nat → Int → Bool → Option (Bool)
 | 0, _, _ => none
 | k + 1, x0, x22 => if x22 = true then (if x0 = 215 then (some false) else (some (x0 != 247))) else (if x0 ≥ 913 then (if x0 ≤ 937 then (some (x0 != 930)) else (if x0 ≥ 945 then (if x0 ≤ 969 then (some true) else (if x0 ≥ 1040 then (if x0 ≤ 1103 then (some true) else (if x0 ≥ 19968 then (some (decide (x0 ≤ 40959))) else (some false))) else (if x0 ≥ 19968 then (some (decide (x0 ≤ 40959))) else (some false)))) else (if x0 ≥ 1040 then (if x0 ≤ 1103 then (some true) else (if x0 ≥ 19968 then (some (decide (x0 ≤ 40959))) else (some false))) else (if x0 ≥ 19968 then (some (decide (x0 ≤ 40959))) else (some false))))) else (if x0 ≥ 945 then (if x0 ≤ 969 then (some true) else (if x0 ≥ 1040 then (if x0 ≤ 1103 then (some true) else (if x0 ≥ 19968 then (some (decide (x0 ≤ 40959))) else (some false))) else (if x0 ≥ 19968 then (some (decide (x0 ≤ 40959))) else (some false)))) else (if x0 ≥ 1040 then (if x0 ≤ 1103 then (some true) else (if x0 ≥ 19968 then (some (decide (x0 ≤ 40959))) else (some false))) else (if x0 ≥ 19968 then (some (decide (x0 ≤ 40959))) else (some false)))))
end
def caduceusref02_Letter.f (k : Nat) (a0 : Int) : Option (Bool) := if a0 ≥ 65 then (if a0 ≤ 90 then (caduceusref02_Letter.j0 k a0 true) else (if a0 ≥ 97 then (caduceusref02_Letter.j0 k a0 (decide (a0 ≤ 122))) else (caduceusref02_Letter.j0 k a0 false))) else (if a0 ≥ 97 then (caduceusref02_Letter.j0 k a0 (decide (a0 ≤ 122))) else (caduceusref02_Letter.j0 k a0 false))
theorem caduceusref02_Letter.mono_l : ∀ k, (∀ y0 y1, LeO (caduceusref02_Letter.j0 k y0 y1) (caduceusref02_Letter.j0 (k + 1) y0 y1)) ∧ (∀ y0 y1, LeO (caduceusref02_Letter.j1 k y0 y1) (caduceusref02_Letter.j1 (k + 1) y0 y1))
 | 0 => ⟨fun _ _ r h => by simp [caduceusref02_Letter.j0] at h, fun _ _ r h => by simp [caduceusref02_Letter.j1] at h⟩
 | k + 1 => by
  obtain ⟨ih0, ih1⟩ := caduceusref02_Letter.mono_l k
  refine ⟨?_, ?_⟩
  all_goals intros
  all_goals first | unfold caduceusref02_Letter.j0 | unfold caduceusref02_Letter.j1
  all_goals repeat' first
   | (with_reducible exact ih0 _ _)
   | (with_reducible exact ih1 _ _)
   | (with_reducible exact LeO.refl _)
   | (with_reducible exact LeO.none _)
   | (with_reducible refine LeO.ite ?_ ?_)
   | (with_reducible refine LeO.bind ?_ (fun _ => ?_))
   | exact ih0 _ _
   | exact ih1 _ _
   | exact LeO.none _
   | refine LeO.ite ?_ ?_
   | refine LeO.bind ?_ (fun _ => ?_)
theorem caduceusref02_Letter.mono : ∀ a0 k, LeO (caduceusref02_Letter.f k a0) (caduceusref02_Letter.f (k + 1) a0) := by
 intro a0 k
 obtain ⟨ih0, ih1⟩ := caduceusref02_Letter.mono_l k
 unfold caduceusref02_Letter.f
 repeat' first
   | (with_reducible exact ih0 _ _)
   | (with_reducible exact ih1 _ _)
   | (with_reducible exact LeO.refl _)
   | (with_reducible exact LeO.none _)
   | (with_reducible refine LeO.ite ?_ ?_)
   | (with_reducible refine LeO.bind ?_ (fun _ => ?_))
   | exact ih0 _ _
   | exact ih1 _ _
   | exact LeO.none _
   | refine LeO.ite ?_ ?_
   | refine LeO.bind ?_ (fun _ => ?_)
set_option maxHeartbeats 8000000 in
set_option maxRecDepth 100000 in
theorem caduceusref02_Letter.calls (k : Nat) (a0 : Int) (r : Bool) (w : World) (h : caduceusref02_Letter.f k a0 = some r) :
  Calls Tryz.prog 99 #[.int .i64 a0] w fun e w' => e = .returned (.bool r) ∧ Drawn0 w w' := by
 have H : (if a0 ≥ 65 then (if a0 ≤ 90 then (caduceusref02_Letter.j0 k a0 true) else (if a0 ≥ 97 then (caduceusref02_Letter.j0 k a0 (decide (a0 ≤ 122))) else (caduceusref02_Letter.j0 k a0 false))) else (if a0 ≥ 97 then (caduceusref02_Letter.j0 k a0 (decide (a0 ≤ 122))) else (caduceusref02_Letter.j0 k a0 false))) = some r := h
 clear h
 have HC2 := Aside0.mk H
 clear H
 go_enter Tryz.func99, Tryz.ntmps99
 go_upto_region 1 with (fail)
 go_cut [16] (fun v16 wc => ∃ (kq : Nat) (x16_1 : Bool), v16 = .bool x16_1 ∧ Aside0 (caduceusref02_Letter.j0 kq a0 x16_1 = some r) ∧ Aside0 (kq ≤ k) ∧ Drawn0 w wc)
 case first =>
  have H := HC2.out
  clear HC2
  by_cases c3 : a0 ≥ 65
  ·rw [if_pos c3] at H
   have c3b0 : decide (65 ≤ a0) = true := decide_eq_true c3
   clear c3
   (first | rw [c3b0] | (simp only [i64_w, i32_w]; rw [c3b0]) | skip)
   by_cases c4 : a0 ≤ 90
   ·rw [if_pos c4] at H
    have c4b0 : decide (a0 ≤ 90) = true := decide_eq_true c4
    clear c4
    have H' := Aside0.mk H
    clear H
    go_wp2
    go_meet
    case rel => exact ⟨_, (true), (endS), H', ⟨by first | omega | exact Nat.le_refl _⟩, drA⟩
   ·rw [if_neg c4] at H
    have c4b0 : decide (a0 ≤ 90) = false := decide_eq_false c4
    clear c4
    by_cases c5 : a0 ≥ 97
    ·rw [if_pos c5] at H
     have c5b0 : decide (97 ≤ a0) = true := decide_eq_true c5
     clear c5
     have H' := Aside0.mk H
     clear H
     go_wp2
     go_meet
     case rel => exact ⟨_, (decide (a0 ≤ 122)), (endS), H', ⟨by first | omega | exact Nat.le_refl _⟩, drA⟩
    ·rw [if_neg c5] at H
     have c5b0 : decide (97 ≤ a0) = false := decide_eq_false c5
     clear c5
     have H' := Aside0.mk H
     clear H
     go_wp2
     go_meet
     case rel => exact ⟨_, (false), (endS), H', ⟨by first | omega | exact Nat.le_refl _⟩, drA⟩
  ·rw [if_neg c3] at H
   have c3b0 : decide (65 ≤ a0) = false := decide_eq_false c3
   clear c3
   (first | rw [c3b0] | (simp only [i64_w, i32_w]; rw [c3b0]) | skip)
   by_cases c6 : a0 ≥ 97
   ·rw [if_pos c6] at H
    have c6b0 : decide (97 ≤ a0) = true := decide_eq_true c6
    clear c6
    have H' := Aside0.mk H
    clear H
    go_wp2
    go_meet
    case rel => exact ⟨_, (decide (a0 ≤ 122)), (endS), H', ⟨by first | omega | exact Nat.le_refl _⟩, drA⟩
   ·rw [if_neg c6] at H
    have c6b0 : decide (97 ≤ a0) = false := decide_eq_false c6
    clear c6
    have H' := Aside0.mk H
    clear H
    go_wp2
    go_meet
    case rel => exact ⟨_, (false), (endS), H', ⟨by first | omega | exact Nat.le_refl _⟩, drA⟩
 case rest =>
  clear HC2
  try clear p2
  try clear c3
  try clear c3b0
  try clear c4
  try clear c4b0
  try clear c5
  try clear c5b0
  try clear c6
  try clear c6b0
  obtain ⟨kq, x16_1, rfl, HA, HJ1, ⟨mc1, rfl⟩⟩ := hcut
  cases kq with
  | zero => exact absurd HA.out (by simp [caduceusref02_Letter.j0])
  | succ kj1 =>
   have H := HA.out
   clear HA
   simp only [caduceusref02_Letter.j0] at H
   by_cases c7 : x16_1 = true
   ·subst c7
    have H1 : (some true) = some r := by rw [if_pos rfl] at H; exact H
    clear H
    have H := H1
    clear H1
    obtain rfl := Option.some.inj H
    go_wp2
    go_ret
    exact ⟨endS, drA⟩
   ·replace c7 := Bool.eq_false_iff.mpr c7
    subst c7
    have H1 : (if a0 ≥ 192 then (caduceusref02_Letter.j1 kj1 a0 (decide (a0 ≤ 591))) else (caduceusref02_Letter.j1 kj1 a0 false)) = some r := by rw [if_neg (show ¬ (false = true) by decide)] at H; exact H
    clear H
    have H := H1
    clear H1
    have HC8 := Aside0.mk H
    clear H
    go_upto_region 3 with (fail)
    go_cut [22] (fun v22 wc => ∃ (kq : Nat) (x22_7 : Bool), v22 = .bool x22_7 ∧ Aside0 (caduceusref02_Letter.j1 kq a0 x22_7 = some r) ∧ Aside0 (kq ≤ kj1) ∧ Drawn0 w wc)
    case first =>
     have H := HC8.out
     clear HC8
     by_cases c9 : a0 ≥ 192
     ·rw [if_pos c9] at H
      have c9b0 : decide (192 ≤ a0) = true := decide_eq_true c9
      clear c9
      (first | rw [c9b0] | (simp only [i64_w, i32_w]; rw [c9b0]) | skip)
      have H' := Aside0.mk H
      clear H
      go_wp2
      go_meet
      case rel => exact ⟨_, (decide (a0 ≤ 591)), (endS), H', ⟨by have := HJ1.out; first | omega | exact Nat.le_refl _⟩, drA⟩
     ·rw [if_neg c9] at H
      have c9b0 : decide (192 ≤ a0) = false := decide_eq_false c9
      clear c9
      (first | rw [c9b0] | (simp only [i64_w, i32_w]; rw [c9b0]) | skip)
      have H' := Aside0.mk H
      clear H
      go_wp2
      go_meet
      case rel => exact ⟨_, (false), (endS), H', ⟨by have := HJ1.out; first | omega | exact Nat.le_refl _⟩, drA⟩
    case rest =>
     clear HC8
     try clear c1
     try clear p2
     try clear c3
     try clear c3b0
     try clear c4
     try clear c4b0
     try clear c5
     try clear c5b0
     try clear c6
     try clear c6b0
     try clear c7
     try clear c9
     try clear c9b0
     try clear p2
     obtain ⟨kq, x22_7, rfl, HA, HJ7, ⟨mc7, rfl⟩⟩ := hcut
     cases kq with
     | zero => exact absurd HA.out (by simp [caduceusref02_Letter.j1])
     | succ kj7 =>
      have H := HA.out
      clear HA
      simp only [caduceusref02_Letter.j1] at H
      by_cases c10 : x22_7 = true
      ·subst c10
       have H1 : (if a0 = 215 then (some false) else (some (a0 != 247))) = some r := by rw [if_pos rfl] at H; exact H
       clear H
       have H := H1
       clear H1
       by_cases c11 : a0 = 215
       ·rw [if_pos c11] at H
        have c11b0 : (a0 == 215) = true := beq_iff_eq.mpr c11
        have c11b1 : (a0 != 215) = false := bne_eq_false_iff_eq.mpr c11
        clear c11
        obtain rfl := Option.some.inj H
        go_wp2
        go_ret
        exact ⟨endS, drA⟩
       ·rw [if_neg c11] at H
        have c11b0 : (a0 == 215) = false := beq_eq_false_iff_ne.mpr c11
        have c11b1 : (a0 != 215) = true := bne_iff_ne.mpr c11
        obtain rfl := Option.some.inj H
        go_wp2
        go_ret
        exact ⟨endS, drA⟩
      ·replace c10 := Bool.eq_false_iff.mpr c10
       subst c10
       have H1 : (if a0 ≥ 913 then (if a0 ≤ 937 then (some (a0 != 930)) else (if a0 ≥ 945 then (if a0 ≤ 969 then (some true) else (if a0 ≥ 1040 then (if a0 ≤ 1103 then (some true) else (if a0 ≥ 19968 then (some (decide (a0 ≤ 40959))) else (some false))) else (if a0 ≥ 19968 then (some (decide (a0 ≤ 40959))) else (some false)))) else (if a0 ≥ 1040 then (if a0 ≤ 1103 then (some true) else (if a0 ≥ 19968 then (some (decide (a0 ≤ 40959))) else (some false))) else (if a0 ≥ 19968 then (some (decide (a0 ≤ 40959))) else (some false))))) else (if a0 ≥ 945 then (if a0 ≤ 969 then (some true) else (if a0 ≥ 1040 then (if a0 ≤ 1103 then (some true) else (if a0 ≥ 19968 then (some (decide (a0 ≤ 40959))) else (some false))) else (if a0 ≥ 19968 then (some (decide (a0 ≤ 40959))) else (some false)))) else (if a0 ≥ 1040 then (if a0 ≤ 1103 then (some true) else (if a0 ≥ 19968 then (some (decide (a0 ≤ 40959))) else (some false))) else (if a0 ≥ 19968 then (some (decide (a0 ≤ 40959))) else (some false))))) = some r := by rw [if_neg (show ¬ (false = true) by decide)] at H; exact H
       clear H
       have H := H1
       clear H1
       by_cases c12 : a0 ≥ 913
       ·rw [if_pos c12] at H
        have c12b0 : decide (913 ≤ a0) = true := decide_eq_true c12
        clear c12
        by_cases c13 : a0 ≤ 937
        ·rw [if_pos c13] at H
         have c13b0 : decide (a0 ≤ 937) = true := decide_eq_true c13
         clear c13
         obtain rfl := Option.some.inj H
         go_wp2
         go_ret
         exact ⟨endS, drA⟩
        ·rw [if_neg c13] at H
         have c13b0 : decide (a0 ≤ 937) = false := decide_eq_false c13
         clear c13
         by_cases c14 : a0 ≥ 945
         ·rw [if_pos c14] at H
          have c14b0 : decide (945 ≤ a0) = true := decide_eq_true c14
          clear c14
          by_cases c15 : a0 ≤ 969
          ·rw [if_pos c15] at H
           have c15b0 : decide (a0 ≤ 969) = true := decide_eq_true c15
           clear c15
           obtain rfl := Option.some.inj H
           go_wp2
           go_ret
           exact ⟨endS, drA⟩
          ·rw [if_neg c15] at H
           have c15b0 : decide (a0 ≤ 969) = false := decide_eq_false c15
           clear c15
           by_cases c16 : a0 ≥ 1040
           ·rw [if_pos c16] at H
            have c16b0 : decide (1040 ≤ a0) = true := decide_eq_true c16
            clear c16
            by_cases c17 : a0 ≤ 1103
            ·rw [if_pos c17] at H
             have c17b0 : decide (a0 ≤ 1103) = true := decide_eq_true c17
             clear c17
             obtain rfl := Option.some.inj H
             go_wp2
             go_ret
             exact ⟨endS, drA⟩
            ·rw [if_neg c17] at H
             have c17b0 : decide (a0 ≤ 1103) = false := decide_eq_false c17
             clear c17
             by_cases c18 : a0 ≥ 19968
             ·rw [if_pos c18] at H
              have c18b0 : decide (19968 ≤ a0) = true := decide_eq_true c18
              clear c18
              obtain rfl := Option.some.inj H
              go_wp2
              go_ret
              exact ⟨endS, drA⟩
             ·rw [if_neg c18] at H
              have c18b0 : decide (19968 ≤ a0) = false := decide_eq_false c18
              clear c18
              obtain rfl := Option.some.inj H
              go_wp2
              go_ret
              exact ⟨endS, drA⟩
           ·rw [if_neg c16] at H
            have c16b0 : decide (1040 ≤ a0) = false := decide_eq_false c16
            clear c16
            by_cases c19 : a0 ≥ 19968
            ·rw [if_pos c19] at H
             have c19b0 : decide (19968 ≤ a0) = true := decide_eq_true c19
             clear c19
             obtain rfl := Option.some.inj H
             go_wp2
             go_ret
             exact ⟨endS, drA⟩
            ·rw [if_neg c19] at H
             have c19b0 : decide (19968 ≤ a0) = false := decide_eq_false c19
             clear c19
             obtain rfl := Option.some.inj H
             go_wp2
             go_ret
             exact ⟨endS, drA⟩
         ·rw [if_neg c14] at H
          have c14b0 : decide (945 ≤ a0) = false := decide_eq_false c14
          clear c14
          by_cases c20 : a0 ≥ 1040
          ·rw [if_pos c20] at H
           have c20b0 : decide (1040 ≤ a0) = true := decide_eq_true c20
           clear c20
           by_cases c21 : a0 ≤ 1103
           ·rw [if_pos c21] at H
            have c21b0 : decide (a0 ≤ 1103) = true := decide_eq_true c21
            clear c21
            obtain rfl := Option.some.inj H
            go_wp2
            go_ret
            exact ⟨endS, drA⟩
           ·rw [if_neg c21] at H
            have c21b0 : decide (a0 ≤ 1103) = false := decide_eq_false c21
            clear c21
            by_cases c22 : a0 ≥ 19968
            ·rw [if_pos c22] at H
             have c22b0 : decide (19968 ≤ a0) = true := decide_eq_true c22
             clear c22
             obtain rfl := Option.some.inj H
             go_wp2
             go_ret
             exact ⟨endS, drA⟩
            ·rw [if_neg c22] at H
             have c22b0 : decide (19968 ≤ a0) = false := decide_eq_false c22
             clear c22
             obtain rfl := Option.some.inj H
             go_wp2
             go_ret
             exact ⟨endS, drA⟩
          ·rw [if_neg c20] at H
           have c20b0 : decide (1040 ≤ a0) = false := decide_eq_false c20
           clear c20
           by_cases c23 : a0 ≥ 19968
           ·rw [if_pos c23] at H
            have c23b0 : decide (19968 ≤ a0) = true := decide_eq_true c23
            clear c23
            obtain rfl := Option.some.inj H
            go_wp2
            go_ret
            exact ⟨endS, drA⟩
           ·rw [if_neg c23] at H
            have c23b0 : decide (19968 ≤ a0) = false := decide_eq_false c23
            clear c23
            obtain rfl := Option.some.inj H
            go_wp2
            go_ret
            exact ⟨endS, drA⟩
       ·rw [if_neg c12] at H
        have c12b0 : decide (913 ≤ a0) = false := decide_eq_false c12
        clear c12
        by_cases c24 : a0 ≥ 945
        ·rw [if_pos c24] at H
         have c24b0 : decide (945 ≤ a0) = true := decide_eq_true c24
         clear c24
         by_cases c25 : a0 ≤ 969
         ·rw [if_pos c25] at H
          have c25b0 : decide (a0 ≤ 969) = true := decide_eq_true c25
          clear c25
          obtain rfl := Option.some.inj H
          go_wp2
          go_ret
          exact ⟨endS, drA⟩
         ·rw [if_neg c25] at H
          have c25b0 : decide (a0 ≤ 969) = false := decide_eq_false c25
          clear c25
          by_cases c26 : a0 ≥ 1040
          ·rw [if_pos c26] at H
           have c26b0 : decide (1040 ≤ a0) = true := decide_eq_true c26
           clear c26
           by_cases c27 : a0 ≤ 1103
           ·rw [if_pos c27] at H
            have c27b0 : decide (a0 ≤ 1103) = true := decide_eq_true c27
            clear c27
            obtain rfl := Option.some.inj H
            go_wp2
            go_ret
            exact ⟨endS, drA⟩
           ·rw [if_neg c27] at H
            have c27b0 : decide (a0 ≤ 1103) = false := decide_eq_false c27
            clear c27
            by_cases c28 : a0 ≥ 19968
            ·rw [if_pos c28] at H
             have c28b0 : decide (19968 ≤ a0) = true := decide_eq_true c28
             clear c28
             obtain rfl := Option.some.inj H
             go_wp2
             go_ret
             exact ⟨endS, drA⟩
            ·rw [if_neg c28] at H
             have c28b0 : decide (19968 ≤ a0) = false := decide_eq_false c28
             clear c28
             obtain rfl := Option.some.inj H
             go_wp2
             go_ret
             exact ⟨endS, drA⟩
          ·rw [if_neg c26] at H
           have c26b0 : decide (1040 ≤ a0) = false := decide_eq_false c26
           clear c26
           by_cases c29 : a0 ≥ 19968
           ·rw [if_pos c29] at H
            have c29b0 : decide (19968 ≤ a0) = true := decide_eq_true c29
            clear c29
            obtain rfl := Option.some.inj H
            go_wp2
            go_ret
            exact ⟨endS, drA⟩
           ·rw [if_neg c29] at H
            have c29b0 : decide (19968 ≤ a0) = false := decide_eq_false c29
            clear c29
            obtain rfl := Option.some.inj H
            go_wp2
            go_ret
            exact ⟨endS, drA⟩
        ·rw [if_neg c24] at H
         have c24b0 : decide (945 ≤ a0) = false := decide_eq_false c24
         clear c24
         by_cases c30 : a0 ≥ 1040
         ·rw [if_pos c30] at H
          have c30b0 : decide (1040 ≤ a0) = true := decide_eq_true c30
          clear c30
          by_cases c31 : a0 ≤ 1103
          ·rw [if_pos c31] at H
           have c31b0 : decide (a0 ≤ 1103) = true := decide_eq_true c31
           clear c31
           obtain rfl := Option.some.inj H
           go_wp2
           go_ret
           exact ⟨endS, drA⟩
          ·rw [if_neg c31] at H
           have c31b0 : decide (a0 ≤ 1103) = false := decide_eq_false c31
           clear c31
           by_cases c32 : a0 ≥ 19968
           ·rw [if_pos c32] at H
            have c32b0 : decide (19968 ≤ a0) = true := decide_eq_true c32
            clear c32
            obtain rfl := Option.some.inj H
            go_wp2
            go_ret
            exact ⟨endS, drA⟩
           ·rw [if_neg c32] at H
            have c32b0 : decide (19968 ≤ a0) = false := decide_eq_false c32
            clear c32
            obtain rfl := Option.some.inj H
            go_wp2
            go_ret
            exact ⟨endS, drA⟩
         ·rw [if_neg c30] at H
          have c30b0 : decide (1040 ≤ a0) = false := decide_eq_false c30
          clear c30
          by_cases c33 : a0 ≥ 19968
          ·rw [if_pos c33] at H
           have c33b0 : decide (19968 ≤ a0) = true := decide_eq_true c33
           clear c33
           obtain rfl := Option.some.inj H
           go_wp2
           go_ret
           exact ⟨endS, drA⟩
          ·rw [if_neg c33] at H
           have c33b0 : decide (19968 ≤ a0) = false := decide_eq_false c33
           clear c33
           obtain rfl := Option.some.inj H
           go_wp2
           go_ret
           exact ⟨endS, drA⟩

end Go.Proofs.YtbbfggfiknbdmaaGreatDoor.A
