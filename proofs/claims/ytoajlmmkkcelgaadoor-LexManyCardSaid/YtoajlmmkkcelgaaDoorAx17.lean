-- By drv.py, the session's own driver round the kit's print: the machine's side of the laws, function by function. Not trusted: Lean checks it.
import Derived.Test.YtoajlmmkkcelgaaDoorAx0
import Derived.Test.YtoajlmmkkcelgaaDoorAx9
import Derived.Test.YtoajlmmkkcelgaaDoorAx16
namespace Go.Proofs.YtoajlmmkkcelgaaDoor.A
open Go.RowKit Go.Proofs.YtoajlmmkkcelgaaDoorW.PrintWords Go.Proofs.YtoajlmmkkcelgaaDoorW.PrintLast Go.Proofs.YtoajlmmkkcelgaaDoorW.PrintMore
attribute [local go_sem] max2_int min2_int max_two min_two max_three min_three max_four min_four   -- for this text's walks alone
set_option linter.unusedVariables false
set_option linter.unusedSimpArgs false

/-! ### name_Small: function 145 -/
def name_Small.f (a0 : Int) : Option (Int) := (name_between.f a0 65 90).bind fun t547 => (if t547 = true then (some (wrap32 (a0 + 32))) else ((name_between.f a0 192 222).bind fun t548 => (if t548 = true then (if a0 = 215 then ((name_between.f a0 913 937).bind fun t549 => (if t549 = true then (if a0 = 930 then ((name_between.f a0 1040 1071).bind fun t550 => (if t550 = true then (some (wrap32 (a0 + 32))) else (some a0))) else (some (wrap32 (a0 + 32)))) else ((name_between.f a0 1040 1071).bind fun t551 => (if t551 = true then (some (wrap32 (a0 + 32))) else (some a0))))) else (some (wrap32 (a0 + 32)))) else ((name_between.f a0 913 937).bind fun t552 => (if t552 = true then (if a0 = 930 then ((name_between.f a0 1040 1071).bind fun t553 => (if t553 = true then (some (wrap32 (a0 + 32))) else (some a0))) else (some (wrap32 (a0 + 32)))) else ((name_between.f a0 1040 1071).bind fun t554 => (if t554 = true then (some (wrap32 (a0 + 32))) else (some a0))))))))
set_option maxHeartbeats 8000000 in
set_option maxRecDepth 100000 in
theorem name_Small.calls (a0 : Int) (r : Int) (w : World) (h : name_Small.f a0 = some r) :
  Calls Tryd.prog 145 #[.int .i32 a0] w fun e w' => e = .returned (.int .i32 r) ∧ Drawn0 w w' := by
 have H : ((name_between.f a0 65 90).bind fun t547 => (if t547 = true then (some (wrap32 (a0 + 32))) else ((name_between.f a0 192 222).bind fun t548 => (if t548 = true then (if a0 = 215 then ((name_between.f a0 913 937).bind fun t549 => (if t549 = true then (if a0 = 930 then ((name_between.f a0 1040 1071).bind fun t550 => (if t550 = true then (some (wrap32 (a0 + 32))) else (some a0))) else (some (wrap32 (a0 + 32)))) else ((name_between.f a0 1040 1071).bind fun t551 => (if t551 = true then (some (wrap32 (a0 + 32))) else (some a0))))) else (some (wrap32 (a0 + 32)))) else ((name_between.f a0 913 937).bind fun t552 => (if t552 = true then (if a0 = 930 then ((name_between.f a0 1040 1071).bind fun t553 => (if t553 = true then (some (wrap32 (a0 + 32))) else (some a0))) else (some (wrap32 (a0 + 32)))) else ((name_between.f a0 1040 1071).bind fun t554 => (if t554 = true then (some (wrap32 (a0 + 32))) else (some a0))))))))) = some r := h
 clear h
 replace H := Option.bind_eq_some_iff.mp H
 obtain ⟨t547, A20, H⟩ := H
 replace H : (if t547 = true then (some (wrap32 (a0 + 32))) else ((name_between.f a0 192 222).bind fun t548 => (if t548 = true then (if a0 = 215 then ((name_between.f a0 913 937).bind fun t549 => (if t549 = true then (if a0 = 930 then ((name_between.f a0 1040 1071).bind fun t550 => (if t550 = true then (some (wrap32 (a0 + 32))) else (some a0))) else (some (wrap32 (a0 + 32)))) else ((name_between.f a0 1040 1071).bind fun t551 => (if t551 = true then (some (wrap32 (a0 + 32))) else (some a0))))) else (some (wrap32 (a0 + 32)))) else ((name_between.f a0 913 937).bind fun t552 => (if t552 = true then (if a0 = 930 then ((name_between.f a0 1040 1071).bind fun t553 => (if t553 = true then (some (wrap32 (a0 + 32))) else (some a0))) else (some (wrap32 (a0 + 32)))) else ((name_between.f a0 1040 1071).bind fun t554 => (if t554 = true then (some (wrap32 (a0 + 32))) else (some a0)))))))) = some r := H
 have A2 := Aside0.mk A20
 clear A20
 by_cases c3 : t547 = true
 ·subst c3
  have H1 : (some (wrap32 (a0 + 32))) = some r := by rw [if_pos rfl] at H; exact H
  clear H
  have H := H1
  clear H1
  obtain rfl := Option.some.inj H
  go_enter Tryd.func145, Tryd.ntmps145
  go_wp2_with (first | ((with_reducible refine gate_callee (f := 144) rfl ?_); refine goesA (some 4) Tryd.func144 #[.int .i32 a0, .int .i32 65, .int .i32 90] ?_; (with_reducible refine (name_between.calls a0 65 90 true _ A2.out).mono ?_); rintro e w' ⟨rfl, ⟨nd, rfl⟩⟩; refine ⟨_, rfl, ?_⟩))
  go_ret
  exact ⟨by first | rfl | (simp; done) | (simp [*]; done) | (simp [wrap64]; done), by repeat (first | exact Drawn0.refl _ | apply Drawn0.step)⟩
 ·replace c3 := Bool.eq_false_iff.mpr c3
  subst c3
  have H1 : ((name_between.f a0 192 222).bind fun t548 => (if t548 = true then (if a0 = 215 then ((name_between.f a0 913 937).bind fun t549 => (if t549 = true then (if a0 = 930 then ((name_between.f a0 1040 1071).bind fun t550 => (if t550 = true then (some (wrap32 (a0 + 32))) else (some a0))) else (some (wrap32 (a0 + 32)))) else ((name_between.f a0 1040 1071).bind fun t551 => (if t551 = true then (some (wrap32 (a0 + 32))) else (some a0))))) else (some (wrap32 (a0 + 32)))) else ((name_between.f a0 913 937).bind fun t552 => (if t552 = true then (if a0 = 930 then ((name_between.f a0 1040 1071).bind fun t553 => (if t553 = true then (some (wrap32 (a0 + 32))) else (some a0))) else (some (wrap32 (a0 + 32)))) else ((name_between.f a0 1040 1071).bind fun t554 => (if t554 = true then (some (wrap32 (a0 + 32))) else (some a0))))))) = some r := by rw [if_neg (show ¬ (false = true) by decide)] at H; exact H
  clear H
  have H := H1
  clear H1
  replace H := Option.bind_eq_some_iff.mp H
  obtain ⟨t548, A40, H⟩ := H
  replace H : (if t548 = true then (if a0 = 215 then ((name_between.f a0 913 937).bind fun t549 => (if t549 = true then (if a0 = 930 then ((name_between.f a0 1040 1071).bind fun t550 => (if t550 = true then (some (wrap32 (a0 + 32))) else (some a0))) else (some (wrap32 (a0 + 32)))) else ((name_between.f a0 1040 1071).bind fun t551 => (if t551 = true then (some (wrap32 (a0 + 32))) else (some a0))))) else (some (wrap32 (a0 + 32)))) else ((name_between.f a0 913 937).bind fun t552 => (if t552 = true then (if a0 = 930 then ((name_between.f a0 1040 1071).bind fun t553 => (if t553 = true then (some (wrap32 (a0 + 32))) else (some a0))) else (some (wrap32 (a0 + 32)))) else ((name_between.f a0 1040 1071).bind fun t554 => (if t554 = true then (some (wrap32 (a0 + 32))) else (some a0)))))) = some r := H
  have A4 := Aside0.mk A40
  clear A40
  by_cases c5 : t548 = true
  ·subst c5
   have H1 : (if a0 = 215 then ((name_between.f a0 913 937).bind fun t549 => (if t549 = true then (if a0 = 930 then ((name_between.f a0 1040 1071).bind fun t550 => (if t550 = true then (some (wrap32 (a0 + 32))) else (some a0))) else (some (wrap32 (a0 + 32)))) else ((name_between.f a0 1040 1071).bind fun t551 => (if t551 = true then (some (wrap32 (a0 + 32))) else (some a0))))) else (some (wrap32 (a0 + 32)))) = some r := by rw [if_pos rfl] at H; exact H
   clear H
   have H := H1
   clear H1
   by_cases c6 : a0 = 215
   ·rw [if_pos c6] at H
    have c6b0 : (a0 == 215) = true := beq_iff_eq.mpr c6
    have c6b1 : (a0 != 215) = false := bne_eq_false_iff_eq.mpr c6
    clear c6
    replace H := Option.bind_eq_some_iff.mp H
    obtain ⟨t549, A70, H⟩ := H
    replace H : (if t549 = true then (if a0 = 930 then ((name_between.f a0 1040 1071).bind fun t550 => (if t550 = true then (some (wrap32 (a0 + 32))) else (some a0))) else (some (wrap32 (a0 + 32)))) else ((name_between.f a0 1040 1071).bind fun t551 => (if t551 = true then (some (wrap32 (a0 + 32))) else (some a0)))) = some r := H
    have A7 := Aside0.mk A70
    clear A70
    by_cases c8 : t549 = true
    ·subst c8
     have H1 : (if a0 = 930 then ((name_between.f a0 1040 1071).bind fun t550 => (if t550 = true then (some (wrap32 (a0 + 32))) else (some a0))) else (some (wrap32 (a0 + 32)))) = some r := by rw [if_pos rfl] at H; exact H
     clear H
     have H := H1
     clear H1
     by_cases c9 : a0 = 930
     ·rw [if_pos c9] at H
      have c9b0 : (a0 == 930) = true := beq_iff_eq.mpr c9
      have c9b1 : (a0 != 930) = false := bne_eq_false_iff_eq.mpr c9
      clear c9
      replace H := Option.bind_eq_some_iff.mp H
      obtain ⟨t550, A100, H⟩ := H
      replace H : (if t550 = true then (some (wrap32 (a0 + 32))) else (some a0)) = some r := H
      have A10 := Aside0.mk A100
      clear A100
      by_cases c11 : t550 = true
      ·subst c11
       have H1 : (some (wrap32 (a0 + 32))) = some r := by rw [if_pos rfl] at H; exact H
       clear H
       have H := H1
       clear H1
       obtain rfl := Option.some.inj H
       go_enter Tryd.func145, Tryd.ntmps145
       go_wp2_with (first | ((with_reducible refine gate_callee (f := 144) rfl ?_); refine goesA (some 4) Tryd.func144 #[.int .i32 a0, .int .i32 65, .int .i32 90] ?_; (with_reducible refine (name_between.calls a0 65 90 false _ A2.out).mono ?_); rintro e w' ⟨rfl, ⟨nd, rfl⟩⟩; refine ⟨_, rfl, ?_⟩) | (go_at_call 144; (with_reducible refine (name_between.calls a0 192 222 true _ A4.out).mono ?_); rintro e w' ⟨rfl, ⟨nd, rfl⟩⟩) | (go_at_call 144; (with_reducible refine (name_between.calls a0 913 937 true _ A7.out).mono ?_); rintro e w' ⟨rfl, ⟨nd, rfl⟩⟩) | (go_at_call 144; (with_reducible refine (name_between.calls a0 1040 1071 true _ A10.out).mono ?_); rintro e w' ⟨rfl, ⟨nd, rfl⟩⟩))
       go_ret
       exact ⟨by first | rfl | (simp; done) | (simp [*]; done) | (simp [wrap64]; done), by repeat (first | exact Drawn0.refl _ | apply Drawn0.step)⟩
      ·replace c11 := Bool.eq_false_iff.mpr c11
       subst c11
       have H1 : (some a0) = some r := by rw [if_neg (show ¬ (false = true) by decide)] at H; exact H
       clear H
       have H := H1
       clear H1
       obtain rfl := Option.some.inj H
       go_enter Tryd.func145, Tryd.ntmps145
       go_wp2_with (first | ((with_reducible refine gate_callee (f := 144) rfl ?_); refine goesA (some 4) Tryd.func144 #[.int .i32 a0, .int .i32 65, .int .i32 90] ?_; (with_reducible refine (name_between.calls a0 65 90 false _ A2.out).mono ?_); rintro e w' ⟨rfl, ⟨nd, rfl⟩⟩; refine ⟨_, rfl, ?_⟩) | (go_at_call 144; (with_reducible refine (name_between.calls a0 192 222 true _ A4.out).mono ?_); rintro e w' ⟨rfl, ⟨nd, rfl⟩⟩) | (go_at_call 144; (with_reducible refine (name_between.calls a0 913 937 true _ A7.out).mono ?_); rintro e w' ⟨rfl, ⟨nd, rfl⟩⟩) | (go_at_call 144; (with_reducible refine (name_between.calls a0 1040 1071 false _ A10.out).mono ?_); rintro e w' ⟨rfl, ⟨nd, rfl⟩⟩))
       go_ret
       exact ⟨by first | rfl | (simp; done) | (simp [*]; done) | (simp [wrap64]; done), by repeat (first | exact Drawn0.refl _ | apply Drawn0.step)⟩
     ·rw [if_neg c9] at H
      have c9b0 : (a0 == 930) = false := beq_eq_false_iff_ne.mpr c9
      have c9b1 : (a0 != 930) = true := bne_iff_ne.mpr c9
      obtain rfl := Option.some.inj H
      go_enter Tryd.func145, Tryd.ntmps145
      go_wp2_with (first | ((with_reducible refine gate_callee (f := 144) rfl ?_); refine goesA (some 4) Tryd.func144 #[.int .i32 a0, .int .i32 65, .int .i32 90] ?_; (with_reducible refine (name_between.calls a0 65 90 false _ A2.out).mono ?_); rintro e w' ⟨rfl, ⟨nd, rfl⟩⟩; refine ⟨_, rfl, ?_⟩) | (go_at_call 144; (with_reducible refine (name_between.calls a0 192 222 true _ A4.out).mono ?_); rintro e w' ⟨rfl, ⟨nd, rfl⟩⟩) | (go_at_call 144; (with_reducible refine (name_between.calls a0 913 937 true _ A7.out).mono ?_); rintro e w' ⟨rfl, ⟨nd, rfl⟩⟩))
      go_ret
      exact ⟨by first | rfl | (simp; done) | (simp [*]; done) | (simp [wrap64]; done), by repeat (first | exact Drawn0.refl _ | apply Drawn0.step)⟩
    ·replace c8 := Bool.eq_false_iff.mpr c8
     subst c8
     have H1 : ((name_between.f a0 1040 1071).bind fun t551 => (if t551 = true then (some (wrap32 (a0 + 32))) else (some a0))) = some r := by rw [if_neg (show ¬ (false = true) by decide)] at H; exact H
     clear H
     have H := H1
     clear H1
     replace H := Option.bind_eq_some_iff.mp H
     obtain ⟨t551, A120, H⟩ := H
     replace H : (if t551 = true then (some (wrap32 (a0 + 32))) else (some a0)) = some r := H
     have A12 := Aside0.mk A120
     clear A120
     by_cases c13 : t551 = true
     ·subst c13
      have H1 : (some (wrap32 (a0 + 32))) = some r := by rw [if_pos rfl] at H; exact H
      clear H
      have H := H1
      clear H1
      obtain rfl := Option.some.inj H
      go_enter Tryd.func145, Tryd.ntmps145
      go_wp2_with (first | ((with_reducible refine gate_callee (f := 144) rfl ?_); refine goesA (some 4) Tryd.func144 #[.int .i32 a0, .int .i32 65, .int .i32 90] ?_; (with_reducible refine (name_between.calls a0 65 90 false _ A2.out).mono ?_); rintro e w' ⟨rfl, ⟨nd, rfl⟩⟩; refine ⟨_, rfl, ?_⟩) | (go_at_call 144; (with_reducible refine (name_between.calls a0 192 222 true _ A4.out).mono ?_); rintro e w' ⟨rfl, ⟨nd, rfl⟩⟩) | (go_at_call 144; (with_reducible refine (name_between.calls a0 913 937 false _ A7.out).mono ?_); rintro e w' ⟨rfl, ⟨nd, rfl⟩⟩) | (go_at_call 144; (with_reducible refine (name_between.calls a0 1040 1071 true _ A12.out).mono ?_); rintro e w' ⟨rfl, ⟨nd, rfl⟩⟩))
      go_ret
      exact ⟨by first | rfl | (simp; done) | (simp [*]; done) | (simp [wrap64]; done), by repeat (first | exact Drawn0.refl _ | apply Drawn0.step)⟩
     ·replace c13 := Bool.eq_false_iff.mpr c13
      subst c13
      have H1 : (some a0) = some r := by rw [if_neg (show ¬ (false = true) by decide)] at H; exact H
      clear H
      have H := H1
      clear H1
      obtain rfl := Option.some.inj H
      go_enter Tryd.func145, Tryd.ntmps145
      go_wp2_with (first | ((with_reducible refine gate_callee (f := 144) rfl ?_); refine goesA (some 4) Tryd.func144 #[.int .i32 a0, .int .i32 65, .int .i32 90] ?_; (with_reducible refine (name_between.calls a0 65 90 false _ A2.out).mono ?_); rintro e w' ⟨rfl, ⟨nd, rfl⟩⟩; refine ⟨_, rfl, ?_⟩) | (go_at_call 144; (with_reducible refine (name_between.calls a0 192 222 true _ A4.out).mono ?_); rintro e w' ⟨rfl, ⟨nd, rfl⟩⟩) | (go_at_call 144; (with_reducible refine (name_between.calls a0 913 937 false _ A7.out).mono ?_); rintro e w' ⟨rfl, ⟨nd, rfl⟩⟩) | (go_at_call 144; (with_reducible refine (name_between.calls a0 1040 1071 false _ A12.out).mono ?_); rintro e w' ⟨rfl, ⟨nd, rfl⟩⟩))
      go_ret
      exact ⟨by first | rfl | (simp; done) | (simp [*]; done) | (simp [wrap64]; done), by repeat (first | exact Drawn0.refl _ | apply Drawn0.step)⟩
   ·rw [if_neg c6] at H
    have c6b0 : (a0 == 215) = false := beq_eq_false_iff_ne.mpr c6
    have c6b1 : (a0 != 215) = true := bne_iff_ne.mpr c6
    obtain rfl := Option.some.inj H
    go_enter Tryd.func145, Tryd.ntmps145
    go_wp2_with (first | ((with_reducible refine gate_callee (f := 144) rfl ?_); refine goesA (some 4) Tryd.func144 #[.int .i32 a0, .int .i32 65, .int .i32 90] ?_; (with_reducible refine (name_between.calls a0 65 90 false _ A2.out).mono ?_); rintro e w' ⟨rfl, ⟨nd, rfl⟩⟩; refine ⟨_, rfl, ?_⟩) | (go_at_call 144; (with_reducible refine (name_between.calls a0 192 222 true _ A4.out).mono ?_); rintro e w' ⟨rfl, ⟨nd, rfl⟩⟩))
    go_ret
    exact ⟨by first | rfl | (simp; done) | (simp [*]; done) | (simp [wrap64]; done), by repeat (first | exact Drawn0.refl _ | apply Drawn0.step)⟩
  ·replace c5 := Bool.eq_false_iff.mpr c5
   subst c5
   have H1 : ((name_between.f a0 913 937).bind fun t552 => (if t552 = true then (if a0 = 930 then ((name_between.f a0 1040 1071).bind fun t553 => (if t553 = true then (some (wrap32 (a0 + 32))) else (some a0))) else (some (wrap32 (a0 + 32)))) else ((name_between.f a0 1040 1071).bind fun t554 => (if t554 = true then (some (wrap32 (a0 + 32))) else (some a0))))) = some r := by rw [if_neg (show ¬ (false = true) by decide)] at H; exact H
   clear H
   have H := H1
   clear H1
   replace H := Option.bind_eq_some_iff.mp H
   obtain ⟨t552, A140, H⟩ := H
   replace H : (if t552 = true then (if a0 = 930 then ((name_between.f a0 1040 1071).bind fun t553 => (if t553 = true then (some (wrap32 (a0 + 32))) else (some a0))) else (some (wrap32 (a0 + 32)))) else ((name_between.f a0 1040 1071).bind fun t554 => (if t554 = true then (some (wrap32 (a0 + 32))) else (some a0)))) = some r := H
   have A14 := Aside0.mk A140
   clear A140
   by_cases c15 : t552 = true
   ·subst c15
    have H1 : (if a0 = 930 then ((name_between.f a0 1040 1071).bind fun t553 => (if t553 = true then (some (wrap32 (a0 + 32))) else (some a0))) else (some (wrap32 (a0 + 32)))) = some r := by rw [if_pos rfl] at H; exact H
    clear H
    have H := H1
    clear H1
    by_cases c16 : a0 = 930
    ·rw [if_pos c16] at H
     have c16b0 : (a0 == 930) = true := beq_iff_eq.mpr c16
     have c16b1 : (a0 != 930) = false := bne_eq_false_iff_eq.mpr c16
     clear c16
     replace H := Option.bind_eq_some_iff.mp H
     obtain ⟨t553, A170, H⟩ := H
     replace H : (if t553 = true then (some (wrap32 (a0 + 32))) else (some a0)) = some r := H
     have A17 := Aside0.mk A170
     clear A170
     by_cases c18 : t553 = true
     ·subst c18
      have H1 : (some (wrap32 (a0 + 32))) = some r := by rw [if_pos rfl] at H; exact H
      clear H
      have H := H1
      clear H1
      obtain rfl := Option.some.inj H
      go_enter Tryd.func145, Tryd.ntmps145
      go_wp2_with (first | ((with_reducible refine gate_callee (f := 144) rfl ?_); refine goesA (some 4) Tryd.func144 #[.int .i32 a0, .int .i32 65, .int .i32 90] ?_; (with_reducible refine (name_between.calls a0 65 90 false _ A2.out).mono ?_); rintro e w' ⟨rfl, ⟨nd, rfl⟩⟩; refine ⟨_, rfl, ?_⟩) | (go_at_call 144; (with_reducible refine (name_between.calls a0 192 222 false _ A4.out).mono ?_); rintro e w' ⟨rfl, ⟨nd, rfl⟩⟩) | (go_at_call 144; (with_reducible refine (name_between.calls a0 913 937 true _ A14.out).mono ?_); rintro e w' ⟨rfl, ⟨nd, rfl⟩⟩) | (go_at_call 144; (with_reducible refine (name_between.calls a0 1040 1071 true _ A17.out).mono ?_); rintro e w' ⟨rfl, ⟨nd, rfl⟩⟩))
      go_ret
      exact ⟨by first | rfl | (simp; done) | (simp [*]; done) | (simp [wrap64]; done), by repeat (first | exact Drawn0.refl _ | apply Drawn0.step)⟩
     ·replace c18 := Bool.eq_false_iff.mpr c18
      subst c18
      have H1 : (some a0) = some r := by rw [if_neg (show ¬ (false = true) by decide)] at H; exact H
      clear H
      have H := H1
      clear H1
      obtain rfl := Option.some.inj H
      go_enter Tryd.func145, Tryd.ntmps145
      go_wp2_with (first | ((with_reducible refine gate_callee (f := 144) rfl ?_); refine goesA (some 4) Tryd.func144 #[.int .i32 a0, .int .i32 65, .int .i32 90] ?_; (with_reducible refine (name_between.calls a0 65 90 false _ A2.out).mono ?_); rintro e w' ⟨rfl, ⟨nd, rfl⟩⟩; refine ⟨_, rfl, ?_⟩) | (go_at_call 144; (with_reducible refine (name_between.calls a0 192 222 false _ A4.out).mono ?_); rintro e w' ⟨rfl, ⟨nd, rfl⟩⟩) | (go_at_call 144; (with_reducible refine (name_between.calls a0 913 937 true _ A14.out).mono ?_); rintro e w' ⟨rfl, ⟨nd, rfl⟩⟩) | (go_at_call 144; (with_reducible refine (name_between.calls a0 1040 1071 false _ A17.out).mono ?_); rintro e w' ⟨rfl, ⟨nd, rfl⟩⟩))
      go_ret
      exact ⟨by first | rfl | (simp; done) | (simp [*]; done) | (simp [wrap64]; done), by repeat (first | exact Drawn0.refl _ | apply Drawn0.step)⟩
    ·rw [if_neg c16] at H
     have c16b0 : (a0 == 930) = false := beq_eq_false_iff_ne.mpr c16
     have c16b1 : (a0 != 930) = true := bne_iff_ne.mpr c16
     obtain rfl := Option.some.inj H
     go_enter Tryd.func145, Tryd.ntmps145
     go_wp2_with (first | ((with_reducible refine gate_callee (f := 144) rfl ?_); refine goesA (some 4) Tryd.func144 #[.int .i32 a0, .int .i32 65, .int .i32 90] ?_; (with_reducible refine (name_between.calls a0 65 90 false _ A2.out).mono ?_); rintro e w' ⟨rfl, ⟨nd, rfl⟩⟩; refine ⟨_, rfl, ?_⟩) | (go_at_call 144; (with_reducible refine (name_between.calls a0 192 222 false _ A4.out).mono ?_); rintro e w' ⟨rfl, ⟨nd, rfl⟩⟩) | (go_at_call 144; (with_reducible refine (name_between.calls a0 913 937 true _ A14.out).mono ?_); rintro e w' ⟨rfl, ⟨nd, rfl⟩⟩))
     go_ret
     exact ⟨by first | rfl | (simp; done) | (simp [*]; done) | (simp [wrap64]; done), by repeat (first | exact Drawn0.refl _ | apply Drawn0.step)⟩
   ·replace c15 := Bool.eq_false_iff.mpr c15
    subst c15
    have H1 : ((name_between.f a0 1040 1071).bind fun t554 => (if t554 = true then (some (wrap32 (a0 + 32))) else (some a0))) = some r := by rw [if_neg (show ¬ (false = true) by decide)] at H; exact H
    clear H
    have H := H1
    clear H1
    replace H := Option.bind_eq_some_iff.mp H
    obtain ⟨t554, A190, H⟩ := H
    replace H : (if t554 = true then (some (wrap32 (a0 + 32))) else (some a0)) = some r := H
    have A19 := Aside0.mk A190
    clear A190
    by_cases c20 : t554 = true
    ·subst c20
     have H1 : (some (wrap32 (a0 + 32))) = some r := by rw [if_pos rfl] at H; exact H
     clear H
     have H := H1
     clear H1
     obtain rfl := Option.some.inj H
     go_enter Tryd.func145, Tryd.ntmps145
     go_wp2_with (first | ((with_reducible refine gate_callee (f := 144) rfl ?_); refine goesA (some 4) Tryd.func144 #[.int .i32 a0, .int .i32 65, .int .i32 90] ?_; (with_reducible refine (name_between.calls a0 65 90 false _ A2.out).mono ?_); rintro e w' ⟨rfl, ⟨nd, rfl⟩⟩; refine ⟨_, rfl, ?_⟩) | (go_at_call 144; (with_reducible refine (name_between.calls a0 192 222 false _ A4.out).mono ?_); rintro e w' ⟨rfl, ⟨nd, rfl⟩⟩) | (go_at_call 144; (with_reducible refine (name_between.calls a0 913 937 false _ A14.out).mono ?_); rintro e w' ⟨rfl, ⟨nd, rfl⟩⟩) | (go_at_call 144; (with_reducible refine (name_between.calls a0 1040 1071 true _ A19.out).mono ?_); rintro e w' ⟨rfl, ⟨nd, rfl⟩⟩))
     go_ret
     exact ⟨by first | rfl | (simp; done) | (simp [*]; done) | (simp [wrap64]; done), by repeat (first | exact Drawn0.refl _ | apply Drawn0.step)⟩
    ·replace c20 := Bool.eq_false_iff.mpr c20
     subst c20
     have H1 : (some a0) = some r := by rw [if_neg (show ¬ (false = true) by decide)] at H; exact H
     clear H
     have H := H1
     clear H1
     obtain rfl := Option.some.inj H
     go_enter Tryd.func145, Tryd.ntmps145
     go_wp2_with (first | ((with_reducible refine gate_callee (f := 144) rfl ?_); refine goesA (some 4) Tryd.func144 #[.int .i32 a0, .int .i32 65, .int .i32 90] ?_; (with_reducible refine (name_between.calls a0 65 90 false _ A2.out).mono ?_); rintro e w' ⟨rfl, ⟨nd, rfl⟩⟩; refine ⟨_, rfl, ?_⟩) | (go_at_call 144; (with_reducible refine (name_between.calls a0 192 222 false _ A4.out).mono ?_); rintro e w' ⟨rfl, ⟨nd, rfl⟩⟩) | (go_at_call 144; (with_reducible refine (name_between.calls a0 913 937 false _ A14.out).mono ?_); rintro e w' ⟨rfl, ⟨nd, rfl⟩⟩) | (go_at_call 144; (with_reducible refine (name_between.calls a0 1040 1071 false _ A19.out).mono ?_); rintro e w' ⟨rfl, ⟨nd, rfl⟩⟩))
     go_ret
     exact ⟨by first | rfl | (simp; done) | (simp [*]; done) | (simp [wrap64]; done), by repeat (first | exact Drawn0.refl _ | apply Drawn0.step)⟩

/-! ### name_Fold: function 119, by hand -/
theorem name_Fold.info : (Tryd.prog.info? 21).map (fun i => (i.zero, i.size, i.bytes)) = some (some (.int .i32 0), 1, 4) := by kernel_rfl
def name_Fold.go (s : ByteArray) : Nat → Nat → List Int → Option (List Int)
 | 0, _, _ => none
 | f + 1, pos, acc => if pos < s.size then (name_Small.f ((Utf8.decode s pos).1 : Int)).bind fun c => name_Fold.go s f (pos + (Utf8.decode s pos).2) (acc ++ [c]) else some acc
def name_Fold.f (a0 : ByteArray) : Option ByteArray := if a0.size ≤ 1099511627776 then (if Lib.validD a0.data.toList = true then (name_Fold.go a0 (a0.size + 1) 0 []).bind fun l => some (runesBytes l) else some a0) else none
set_option maxHeartbeats 4000000 in
set_option maxRecDepth 100000 in
theorem name_Fold.calls (a0 : ByteArray) (r : ByteArray) (w : World) (hT : Tabs w) (h : name_Fold.f a0 = some r) :
  Calls Tryd.prog 119 #[.string a0] w fun e w' => e = .returned (.string r) ∧ Below w.heap.size w w' := by
 unfold name_Fold.f at h
 split at h
 ·rename_i hs
  have cV := Tryd.utf8_ValidString a0 w (by omega) hT.u8
  by_cases hv : Lib.validD a0.data.toList = true
  ·rw [if_pos hv] at h
   obtain ⟨l, hl, h⟩ := Option.bind_eq_some_iff.1 h
   obtain rfl := Option.some.inj h
   have H := Lib.hid hl
   rw [hv] at cV
   clear h hv hl
   go_enter Tryd.func119, Tryd.ntmps119
   go_wp2_with (go_at_call 53; refine cV.mono ?_; rintro e w1 ⟨rfl, hb1⟩)
   go_loopw [3] (fun v3 wr => ∃ (pos fuel : Nat) (acc : List Int), wr.heap[w1.heap.size]? = some (.stringIter a0 pos) ∧ Kd.R (Kd.int .i32) 21 wr w.heap.size (fun k => k ≠ w1.heap.size) v3 acc ∧ Below w.heap.size w wr ∧ Hid (name_Fold.go a0 fuel pos acc = some l) ∧ acc.length ≤ pos) (fun _ wr => a0.size - wr.iterPos w1.heap.size)
   case atStart => exact ⟨0, _, [], World.iter_heap w1 a0 0, Kd.R_nil _ _ _ _ _, hb1.alloc hb1.size _, H, by simp⟩
   case round =>
    obtain ⟨pos, fuel, acc, hit, hR, hbw, HG, hal⟩ := hrel
    clear H
    have hsz : w1.heap.size < wr.heap.size := (Array.getElem?_eq_some_iff.1 hit).1
    have hsw : w.heap.size ≤ w1.heap.size := hb1.size
    cases fuel with
    | zero => exact absurd HG.out (by simp [name_Fold.go])
    | succ f =>
     have hgo := HG.out
     clear HG
     unfold name_Fold.go at hgo
     by_cases hp : pos < a0.size
     ·rw [if_pos hp] at hgo
      have hnx : ∀ ty, (Instr.next (.pointer (some ⟨w1.heap.size, 0, none⟩)) true ty).run Tryd.prog wr = _ := fun ty => Lib.run_next_any_at wr w1.heap.size a0 pos ty hit hp
      have Hwd := Lib.hid (Lib.width_pos a0 pos)
      have Hd1 := Lib.hid (decode_le a0 pos)
      have hit2 := Lib.iterAt_heap wr w1.heap.size a0 pos (pos + (Utf8.decode a0 pos).2) hit
      have hbw2 := Lib.below_iterAt hbw (k := w1.heap.size) hsw a0 (pos + (Utf8.decode a0 pos).2)
      have hR2 : Kd.R (Kd.int .i32) 21 (wr.iterAt w1.heap.size a0 (pos + (Utf8.decode a0 pos).2)) w.heap.size (fun k => k ≠ w1.heap.size) u3 acc := Kd.R_move hR (fun k hk => Lib.iterAt_other wr w1.heap.size k a0 _ hk)
      obtain ⟨c, hc, hgo⟩ := Option.bind_eq_some_iff.1 hgo
      have cS := fun W => name_Small.calls ((Utf8.decode a0 pos).1 : Int) c W hc
      generalize hq : (((Utf8.decode a0 pos).1 : Nat) : Int) = q at cS hnx
      have HE := Lib.hid hgo
      have hz2 : w1.heap.size < (wr.iterAt w1.heap.size a0 (pos + (Utf8.decode a0 pos).2)).heap.size := by rw [Lib.iterAt_size]; exact hsz
      have Hit := Lib.hid hit
      have HL := Lib.hid (show (acc.length + 1) * 4 ≤ 140737488355328 by omega)
      have HA := Lib.hid hal
      clear hgo hc hq hit hbw hR hal
      go_wp2_with (first | (go_at_call 145; refine (cS _).mono ?_; rintro e w2 ⟨rfl, ⟨nd, rfl⟩⟩) | ((with_reducible refine gate_builtin (b := .append) (xs := #[.tmp 15, .tmp 18]) rfl ?_); at_builtin; refine Kd.R_append (Kd.int .i32) (w0 := w) w.heap.size rfl (.tmp 15) (.tmp 18) 160 21 (.int .i32 0) 4 rfl Tryd.underlying160 name_Fold.info rfl (by decide) (by omega) u3 acc c [.int .i32 c] (fun k => k ≠ w1.heap.size) (fun _ => False) rfl (by first | (go_simp; done) | (go_simp; rfl)) rfl (fun _ hk => hk.elim) ?aF ?aO ?aB ?aS HL.out ?_; (case aF => (intro k hk he; rw [he] at hk; exact absurd (Nat.lt_of_lt_of_le hz2 hk) (Nat.lt_irrefl _))); (case aB => (repeat (first | exact hbw2 | apply pw_below_drewN))); (case aO => ((with_reducible repeat (first | apply Kd.R_alloc | apply Kd.R_drewN | apply Kd.R_drew)); exact hR2)); (case aS => exact hbw2.size); intro v4 w4 ho hb hg hat; have hit3 := blk_grown (show ((wr.iterAt w1.heap.size a0 (pos + (Utf8.decode a0 pos).2)).drewN nd).heap[w1.heap.size]? = _ from hit2) hg (fun e => hR2.1 _ e.symm rfl)))
      go_roundw
      case rel =>
       refine ⟨_, f, acc ++ [c], hit3, ho, hb, HE, ?_⟩
       have := HA.out
       have := Hwd.out
       rw [List.length_append]
       show acc.length + 1 ≤ _
       omega
      case measure =>
       have hwd := Hwd.out
       have hd1 := Hd1.out
       simp only [World.iterPos, hit3, Hit.out]
       omega
     ·rw [if_neg hp] at hgo
      obtain rfl := Option.some.inj hgo
      clear hal
      have hnx : ∀ ty, (Instr.next (.pointer (some ⟨w1.heap.size, 0, none⟩)) true ty).run Tryd.prog wr = _ := fun ty => Lib.run_next_end_at wr w1.heap.size a0 pos ty hit hp
      have hcv := own_runes (P := Tryd.prog) Tryd.underlying160 Tryd.underlying21 Tryd.underlying9 (Kd.own_of_R hR)
      go_wp2
      go_ret
      exact ⟨rfl, hbw⟩
  ·rw [if_neg hv] at h
   obtain rfl := Option.some.inj h
   rw [Bool.eq_false_iff.2 hv] at cV
   clear hv
   go_enter Tryd.func119, Tryd.ntmps119
   go_wp2_with (go_at_call 53; refine cV.mono ?_; rintro e w1 ⟨rfl, hb1⟩)
   go_ret
   exact ⟨rfl, hb1⟩
 ·cases h

/-! ### name_Same: function 89 -/
def name_Same.f (a0 : ByteArray) (a1 : ByteArray) : Option (Bool) := (name_Fold.f a0).bind fun t555 => ((name_Fold.f a1).bind fun t556 => (some (t555.toList == t556.toList)))
set_option maxHeartbeats 8000000 in
set_option maxRecDepth 100000 in
theorem name_Same.calls (a0 : ByteArray) (a1 : ByteArray) (r : Bool) (w : World) (hT : Tabs w) (h : name_Same.f a0 a1 = some r) :
  Calls Tryd.prog 89 #[.string a0, .string a1] w fun e w' => e = .returned (.bool r) ∧ Below w.heap.size w w' := by
 have HB := Aside0.mk (Below.refl w.heap.size w)
 have H : ((name_Fold.f a0).bind fun t555 => ((name_Fold.f a1).bind fun t556 => (some (t555.toList == t556.toList)))) = some r := h
 clear h
 have HT := Aside0.mk hT
 clear hT
 replace H := Option.bind_eq_some_iff.mp H
 obtain ⟨t555, A30, H⟩ := H
 replace H : ((name_Fold.f a1).bind fun t556 => (some (t555.toList == t556.toList))) = some r := H
 have A3 := Aside0.mk A30
 clear A30
 replace H := Option.bind_eq_some_iff.mp H
 obtain ⟨t556, A40, H⟩ := H
 replace H : (some (t555.toList == t556.toList)) = some r := H
 have A4 := Aside0.mk A40
 clear A40
 obtain rfl := Option.some.inj H
 go_enter Tryd.func89, Tryd.ntmps89
 go_wp2_with (first | ((with_reducible refine gate_callee (f := 119) rfl ?_); refine goesA (some 6) Tryd.func119 #[.string a0] ?_; (with_reducible refine (name_Fold.calls a0 t555 _ ?side1 A3.out).mono ?_); (case side1 => exact Tabs.below HT.out bwA); rintro e w5 ⟨rfl, hb⟩; refine ⟨_, rfl, ?_⟩; have n0_ := Aside0.mk (below_step bwA hb); clear HB; have HB := n0_; clear n0_; (try clear hb); (try clear hb2); (try clear hk); (try clear hi)) | ((with_reducible refine gate_callee (f := 119) rfl ?_); refine goesA (some 8) Tryd.func119 #[.string a1] ?_; (with_reducible refine (name_Fold.calls a1 t556 _ ?side1 A4.out).mono ?_); (case side1 => exact Tabs.below HT.out bwA); rintro e w6 ⟨rfl, hb⟩; refine ⟨_, rfl, ?_⟩; have n0_ := Aside0.mk (below_step bwA hb); clear HB; have HB := n0_; clear n0_; (try clear hb); (try clear hb2); (try clear hk); (try clear hi)))
 go_ret
 exact ⟨by first | rfl | (simp [errW_none, errW_some] <;> rfl) | (simp [*, errW_none, errW_some] <;> rfl), by repeat (first | (with_reducible first | exact HB.out | apply below_alloc | apply pw_below_drewN | apply below_drew1) | exact HB.out)⟩

/-! ### lex_Word: function 51 -/
def lex_Word.f (a0_0 : Int) (a0_1 : Int) (a0_2 : ByteArray) (a0_3 : Int) (a0_4 : Int) (a0_5 : ByteArray) (a1 : ByteArray) : Option (Bool) := if a0_0 = 1 then ((name_Same.f a0_2 a1).bind fun t558 => (some t558)) else (some false)
set_option maxHeartbeats 8000000 in
set_option maxRecDepth 100000 in
theorem lex_Word.calls (a0_0 : Int) (a0_1 : Int) (a0_2 : ByteArray) (a0_3 : Int) (a0_4 : Int) (a0_5 : ByteArray) (a1 : ByteArray) (r : Bool) (w : World) (hT : Tabs w) (h : lex_Word.f a0_0 a0_1 a0_2 a0_3 a0_4 a0_5 a1 = some r) :
  Calls Tryd.prog 51 #[.agg #[.int .i64 a0_0, .int .i64 a0_1, .string a0_2, .int .i64 a0_3, .int .i64 a0_4, .string a0_5], .string a1] w fun e w' => e = .returned (.bool r) ∧ Below w.heap.size w w' := by
 have hu68 := Tryd.underlying68
 have HB := Aside0.mk (Below.refl w.heap.size w)
 have H : (if a0_0 = 1 then ((name_Same.f a0_2 a1).bind fun t558 => (some t558)) else (some false)) = some r := h
 clear h
 have HT := Aside0.mk hT
 clear hT
 by_cases c3 : a0_0 = 1
 ·rw [if_pos c3] at H
  have c3b0 : (a0_0 == 1) = true := beq_iff_eq.mpr c3
  have c3b1 : (a0_0 != 1) = false := bne_eq_false_iff_eq.mpr c3
  clear c3
  replace H := Option.bind_eq_some_iff.mp H
  obtain ⟨t558, A40, H⟩ := H
  replace H : (some t558) = some r := H
  have A4 := Aside0.mk A40
  clear A40
  obtain rfl := Option.some.inj H
  go_enter Tryd.func51, Tryd.ntmps51
  go_wp2_with (first | ((with_reducible refine gate_dst (N := 2) rfl ?_); refine box_event ?hg (N := 2) ?hd (cs := #[.int .i64 a0_0, .int .i64 a0_1, .string a0_2, .int .i64 a0_3, .int .i64 a0_4, .string a0_5]) (t := 68) ?hr ?_; (case hd => rfl); (case hg => rfl); (case hr => first | (go_simp; done) | (go_simp; rfl)); intro gb557 hg w5 hbox hb; have n0_ := Aside0.mk (below_step bwA hb); have n1_ := Aside0.mk (hbox); have n2_ := Aside0.mk ((by rw [hg]; exact (below_size bwA) : w.heap.size ≤ gb557)); have n3_ := Aside0.mk ((by rw [hg]; exact (below_size bwA) : w.heap.size ≤ gb557)); clear HB; have HB := n0_; have BK557 := n1_; have GW557 := n2_; have GE557 := n3_; clear n0_ n1_ n2_ n3_; clear hb hbox hg; have hcz6_0 : w5.cell? ⟨gb557, 0, none⟩ = some (.int .i64 a0_0) := (blk_cell BK557.out 0).trans rfl; have hcz6_1 : w5.cell? ⟨gb557, 1, none⟩ = some (.int .i64 a0_1) := (blk_cell BK557.out 1).trans rfl; have hcz6_2 : w5.cell? ⟨gb557, 2, none⟩ = some (.string a0_2) := (blk_cell BK557.out 2).trans rfl; have hcz6_3 : w5.cell? ⟨gb557, 3, none⟩ = some (.int .i64 a0_3) := (blk_cell BK557.out 3).trans rfl; have hcz6_4 : w5.cell? ⟨gb557, 4, none⟩ = some (.int .i64 a0_4) := (blk_cell BK557.out 4).trans rfl; have hcz6_5 : w5.cell? ⟨gb557, 5, none⟩ = some (.string a0_5) := (blk_cell BK557.out 5).trans rfl; have hfz6_0 := blk_frozen BK557.out 0; have hfz6_1 := blk_frozen BK557.out 1; have hfz6_2 := blk_frozen BK557.out 2; have hfz6_3 := blk_frozen BK557.out 3; have hfz6_4 := blk_frozen BK557.out 4; have hfz6_5 := blk_frozen BK557.out 5) | (go_at_call 89; (with_reducible refine (name_Same.calls a0_2 a1 t558 _ ?side1 A4.out).mono ?_); (case side1 => exact Tabs.below HT.out bwA); rintro e w7 ⟨rfl, hb⟩; have n0_ := Aside0.mk (blk_below (g := gb557) (o := .cells #[.int .i64 a0_0, .int .i64 a0_1, .string a0_2, .int .i64 a0_3, .int .i64 a0_4, .string a0_5] 68 (0, 0)) blkA hb); have n1_ := Aside0.mk (below_step bwA hb); clear BK557; clear HB; have BK557 := n0_; have HB := n1_; clear n0_ n1_; (try clear hb); (try clear hb2); (try clear hk); (try clear hi)))
  go_ret
  exact ⟨by first | rfl | (simp [errW_none, errW_some] <;> rfl) | (simp [*, errW_none, errW_some] <;> rfl), by repeat (first | (with_reducible first | exact HB.out | apply below_alloc | apply pw_below_drewN | apply below_drew1 | refine below_set ?_ GE557.out) | exact HB.out)⟩
 ·rw [if_neg c3] at H
  have c3b0 : (a0_0 == 1) = false := beq_eq_false_iff_ne.mpr c3
  have c3b1 : (a0_0 != 1) = true := bne_iff_ne.mpr c3
  obtain rfl := Option.some.inj H
  go_enter Tryd.func51, Tryd.ntmps51
  go_wp2_with (first | ((with_reducible refine gate_dst (N := 2) rfl ?_); refine box_event ?hg (N := 2) ?hd (cs := #[.int .i64 a0_0, .int .i64 a0_1, .string a0_2, .int .i64 a0_3, .int .i64 a0_4, .string a0_5]) (t := 68) ?hr ?_; (case hd => rfl); (case hg => rfl); (case hr => first | (go_simp; done) | (go_simp; rfl)); intro gb557 hg w8 hbox hb; have n0_ := Aside0.mk (below_step bwA hb); have n1_ := Aside0.mk (hbox); have n2_ := Aside0.mk ((by rw [hg]; exact (below_size bwA) : w.heap.size ≤ gb557)); have n3_ := Aside0.mk ((by rw [hg]; exact (below_size bwA) : w.heap.size ≤ gb557)); clear HB; have HB := n0_; have BK557 := n1_; have GW557 := n2_; have GE557 := n3_; clear n0_ n1_ n2_ n3_; clear hb hbox hg; have hcz9_0 : w8.cell? ⟨gb557, 0, none⟩ = some (.int .i64 a0_0) := (blk_cell BK557.out 0).trans rfl; have hcz9_1 : w8.cell? ⟨gb557, 1, none⟩ = some (.int .i64 a0_1) := (blk_cell BK557.out 1).trans rfl; have hcz9_2 : w8.cell? ⟨gb557, 2, none⟩ = some (.string a0_2) := (blk_cell BK557.out 2).trans rfl; have hcz9_3 : w8.cell? ⟨gb557, 3, none⟩ = some (.int .i64 a0_3) := (blk_cell BK557.out 3).trans rfl; have hcz9_4 : w8.cell? ⟨gb557, 4, none⟩ = some (.int .i64 a0_4) := (blk_cell BK557.out 4).trans rfl; have hcz9_5 : w8.cell? ⟨gb557, 5, none⟩ = some (.string a0_5) := (blk_cell BK557.out 5).trans rfl; have hfz9_0 := blk_frozen BK557.out 0; have hfz9_1 := blk_frozen BK557.out 1; have hfz9_2 := blk_frozen BK557.out 2; have hfz9_3 := blk_frozen BK557.out 3; have hfz9_4 := blk_frozen BK557.out 4; have hfz9_5 := blk_frozen BK557.out 5))
  go_ret
  exact ⟨by first | rfl | (simp [errW_none, errW_some] <;> rfl) | (simp [*, errW_none, errW_some] <;> rfl), by repeat (first | (with_reducible first | exact HB.out | apply below_alloc | apply pw_below_drewN | apply below_drew1 | refine below_set ?_ GE557.out) | exact HB.out)⟩

/-! ### lex_Mark: function 52 -/
def lex_Mark.f (a0_0 : Int) (a0_1 : Int) (a0_2 : ByteArray) (a0_3 : Int) (a0_4 : Int) (a0_5 : ByteArray) (a1 : ByteArray) : Option (Bool) := if a0_0 = 3 then (some (a0_2.toList == a1.toList)) else (some false)
set_option maxHeartbeats 8000000 in
set_option maxRecDepth 100000 in
theorem lex_Mark.calls (a0_0 : Int) (a0_1 : Int) (a0_2 : ByteArray) (a0_3 : Int) (a0_4 : Int) (a0_5 : ByteArray) (a1 : ByteArray) (r : Bool) (w : World) (h : lex_Mark.f a0_0 a0_1 a0_2 a0_3 a0_4 a0_5 a1 = some r) :
  Calls Tryd.prog 52 #[.agg #[.int .i64 a0_0, .int .i64 a0_1, .string a0_2, .int .i64 a0_3, .int .i64 a0_4, .string a0_5], .string a1] w fun e w' => e = .returned (.bool r) ∧ Below w.heap.size w w' := by
 have hu68 := Tryd.underlying68
 have HB := Aside0.mk (Below.refl w.heap.size w)
 have H : (if a0_0 = 3 then (some (a0_2.toList == a1.toList)) else (some false)) = some r := h
 clear h
 by_cases c3 : a0_0 = 3
 ·rw [if_pos c3] at H
  have c3b0 : (a0_0 == 3) = true := beq_iff_eq.mpr c3
  have c3b1 : (a0_0 != 3) = false := bne_eq_false_iff_eq.mpr c3
  clear c3
  obtain rfl := Option.some.inj H
  go_enter Tryd.func52, Tryd.ntmps52
  go_wp2_with (first | ((with_reducible refine gate_dst (N := 2) rfl ?_); refine box_event ?hg (N := 2) ?hd (cs := #[.int .i64 a0_0, .int .i64 a0_1, .string a0_2, .int .i64 a0_3, .int .i64 a0_4, .string a0_5]) (t := 68) ?hr ?_; (case hd => rfl); (case hg => rfl); (case hr => first | (go_simp; done) | (go_simp; rfl)); intro gb559 hg w4 hbox hb; have n0_ := Aside0.mk (below_step bwA hb); have n1_ := Aside0.mk (hbox); have n2_ := Aside0.mk ((by rw [hg]; exact (below_size bwA) : w.heap.size ≤ gb559)); have n3_ := Aside0.mk ((by rw [hg]; exact (below_size bwA) : w.heap.size ≤ gb559)); clear HB; have HB := n0_; have BK559 := n1_; have GW559 := n2_; have GE559 := n3_; clear n0_ n1_ n2_ n3_; clear hb hbox hg; have hcz5_0 : w4.cell? ⟨gb559, 0, none⟩ = some (.int .i64 a0_0) := (blk_cell BK559.out 0).trans rfl; have hcz5_1 : w4.cell? ⟨gb559, 1, none⟩ = some (.int .i64 a0_1) := (blk_cell BK559.out 1).trans rfl; have hcz5_2 : w4.cell? ⟨gb559, 2, none⟩ = some (.string a0_2) := (blk_cell BK559.out 2).trans rfl; have hcz5_3 : w4.cell? ⟨gb559, 3, none⟩ = some (.int .i64 a0_3) := (blk_cell BK559.out 3).trans rfl; have hcz5_4 : w4.cell? ⟨gb559, 4, none⟩ = some (.int .i64 a0_4) := (blk_cell BK559.out 4).trans rfl; have hcz5_5 : w4.cell? ⟨gb559, 5, none⟩ = some (.string a0_5) := (blk_cell BK559.out 5).trans rfl; have hfz5_0 := blk_frozen BK559.out 0; have hfz5_1 := blk_frozen BK559.out 1; have hfz5_2 := blk_frozen BK559.out 2; have hfz5_3 := blk_frozen BK559.out 3; have hfz5_4 := blk_frozen BK559.out 4; have hfz5_5 := blk_frozen BK559.out 5))
  go_ret
  exact ⟨by first | rfl | (simp [errW_none, errW_some] <;> rfl) | (simp [*, errW_none, errW_some] <;> rfl), by repeat (first | (with_reducible first | exact HB.out | apply below_alloc | apply pw_below_drewN | apply below_drew1 | refine below_set ?_ GE559.out) | exact HB.out)⟩
 ·rw [if_neg c3] at H
  have c3b0 : (a0_0 == 3) = false := beq_eq_false_iff_ne.mpr c3
  have c3b1 : (a0_0 != 3) = true := bne_iff_ne.mpr c3
  obtain rfl := Option.some.inj H
  go_enter Tryd.func52, Tryd.ntmps52
  go_wp2_with (first | ((with_reducible refine gate_dst (N := 2) rfl ?_); refine box_event ?hg (N := 2) ?hd (cs := #[.int .i64 a0_0, .int .i64 a0_1, .string a0_2, .int .i64 a0_3, .int .i64 a0_4, .string a0_5]) (t := 68) ?hr ?_; (case hd => rfl); (case hg => rfl); (case hr => first | (go_simp; done) | (go_simp; rfl)); intro gb559 hg w6 hbox hb; have n0_ := Aside0.mk (below_step bwA hb); have n1_ := Aside0.mk (hbox); have n2_ := Aside0.mk ((by rw [hg]; exact (below_size bwA) : w.heap.size ≤ gb559)); have n3_ := Aside0.mk ((by rw [hg]; exact (below_size bwA) : w.heap.size ≤ gb559)); clear HB; have HB := n0_; have BK559 := n1_; have GW559 := n2_; have GE559 := n3_; clear n0_ n1_ n2_ n3_; clear hb hbox hg; have hcz7_0 : w6.cell? ⟨gb559, 0, none⟩ = some (.int .i64 a0_0) := (blk_cell BK559.out 0).trans rfl; have hcz7_1 : w6.cell? ⟨gb559, 1, none⟩ = some (.int .i64 a0_1) := (blk_cell BK559.out 1).trans rfl; have hcz7_2 : w6.cell? ⟨gb559, 2, none⟩ = some (.string a0_2) := (blk_cell BK559.out 2).trans rfl; have hcz7_3 : w6.cell? ⟨gb559, 3, none⟩ = some (.int .i64 a0_3) := (blk_cell BK559.out 3).trans rfl; have hcz7_4 : w6.cell? ⟨gb559, 4, none⟩ = some (.int .i64 a0_4) := (blk_cell BK559.out 4).trans rfl; have hcz7_5 : w6.cell? ⟨gb559, 5, none⟩ = some (.string a0_5) := (blk_cell BK559.out 5).trans rfl; have hfz7_0 := blk_frozen BK559.out 0; have hfz7_1 := blk_frozen BK559.out 1; have hfz7_2 := blk_frozen BK559.out 2; have hfz7_3 := blk_frozen BK559.out 3; have hfz7_4 := blk_frozen BK559.out 4; have hfz7_5 := blk_frozen BK559.out 5))
  go_ret
  exact ⟨by first | rfl | (simp [errW_none, errW_some] <;> rfl) | (simp [*, errW_none, errW_some] <;> rfl), by repeat (first | (with_reducible first | exact HB.out | apply below_alloc | apply pw_below_drewN | apply below_drew1 | refine below_set ?_ GE559.out) | exact HB.out)⟩

/-! ### caduceuslaw07_awake: function 24 -/
def caduceuslaw07_awake.f (k : Nat)  : Option (Bool) := (lex_Lex.f k (⟨#[97, 32, 62, 61, 32, 45, 53, 32, 97, 110, 100, 32, 98, 32, 105, 110, 32, 123, 34, 120, 34, 125]⟩ : ByteArray)).bind fun bt560 => (if bt560.2.2 = 0 then (if bt560.2.1 = 22 then (if (bt560.1.length : Int) = 9 then (if 1 < (bt560.1.length : Int) then (if ((rd_T68 bt560.1 1).f2).toList = ([62, 61] : List UInt8) then (if 2 < (bt560.1.length : Int) then (if ((rd_T68 bt560.1 2).f3.f1) = (-5) then (if 4 < (bt560.1.length : Int) then (if ((rd_T68 bt560.1 4).f2).toList = ([98] : List UInt8) then (if ((rd_T68 bt560.1 4).f1) = 12 then (if 7 < (bt560.1.length : Int) then (if ((rd_T68 bt560.1 7).f3.f2).toList = ([120] : List UInt8) then (if 3 < (bt560.1.length : Int) then ((lex_Word.f ((rd_T68 bt560.1 3).f0) ((rd_T68 bt560.1 3).f1) ((rd_T68 bt560.1 3).f2) ((rd_T68 bt560.1 3).f3.f0) ((rd_T68 bt560.1 3).f3.f1) ((rd_T68 bt560.1 3).f3.f2) (⟨#[65, 78, 68]⟩ : ByteArray)).bind fun t571 => (if t571 = true then (if 8 < (bt560.1.length : Int) then ((lex_Mark.f ((rd_T68 bt560.1 8).f0) ((rd_T68 bt560.1 8).f1) ((rd_T68 bt560.1 8).f2) ((rd_T68 bt560.1 8).f3.f0) ((rd_T68 bt560.1 8).f3.f1) ((rd_T68 bt560.1 8).f3.f2) (⟨#[125]⟩ : ByteArray)).bind fun t573 => (some t573)) else (none)) else (none))) else (none)) else (none)) else (none)) else (none)) else (none)) else (none)) else (none)) else (none)) else (none)) else (none)) else (none)) else (none)) else (none))
theorem caduceuslaw07_awake.mono : ∀ k, LeO (caduceuslaw07_awake.f k ) (caduceuslaw07_awake.f (k + 1) ) := by
 intro  k
 unfold caduceuslaw07_awake.f
 repeat' first
   | (with_reducible exact lex_Lex.mono _ _)
   | (with_reducible exact LeO.refl _)
   | (with_reducible exact LeO.none _)
   | (with_reducible refine LeO.ite ?_ ?_)
   | (with_reducible refine LeO.bind ?_ (fun _ => ?_))
   | exact lex_Lex.mono _ _
   | exact LeO.none _
   | refine LeO.ite ?_ ?_
   | refine LeO.bind ?_ (fun _ => ?_)
set_option maxHeartbeats 8000000 in
set_option maxRecDepth 100000 in
theorem caduceuslaw07_awake.calls (k : Nat)  (r : Bool) (w : World) (hT : Tabs w) (h : caduceuslaw07_awake.f k  = some r) :
  Calls Tryd.prog 24 #[] w fun e w' => e = .returned (.bool r) ∧ Below w.heap.size w w' := by
 have hu68 := Tryd.underlying68
 have HB := Aside0.mk (Below.refl w.heap.size w)
 have H : ((lex_Lex.f k (⟨#[97, 32, 62, 61, 32, 45, 53, 32, 97, 110, 100, 32, 98, 32, 105, 110, 32, 123, 34, 120, 34, 125]⟩ : ByteArray)).bind fun bt560 => (if bt560.2.2 = 0 then (if bt560.2.1 = 22 then (if (bt560.1.length : Int) = 9 then (if 1 < (bt560.1.length : Int) then (if ((rd_T68 bt560.1 1).f2).toList = ([62, 61] : List UInt8) then (if 2 < (bt560.1.length : Int) then (if ((rd_T68 bt560.1 2).f3.f1) = (-5) then (if 4 < (bt560.1.length : Int) then (if ((rd_T68 bt560.1 4).f2).toList = ([98] : List UInt8) then (if ((rd_T68 bt560.1 4).f1) = 12 then (if 7 < (bt560.1.length : Int) then (if ((rd_T68 bt560.1 7).f3.f2).toList = ([120] : List UInt8) then (if 3 < (bt560.1.length : Int) then ((lex_Word.f ((rd_T68 bt560.1 3).f0) ((rd_T68 bt560.1 3).f1) ((rd_T68 bt560.1 3).f2) ((rd_T68 bt560.1 3).f3.f0) ((rd_T68 bt560.1 3).f3.f1) ((rd_T68 bt560.1 3).f3.f2) (⟨#[65, 78, 68]⟩ : ByteArray)).bind fun t571 => (if t571 = true then (if 8 < (bt560.1.length : Int) then ((lex_Mark.f ((rd_T68 bt560.1 8).f0) ((rd_T68 bt560.1 8).f1) ((rd_T68 bt560.1 8).f2) ((rd_T68 bt560.1 8).f3.f0) ((rd_T68 bt560.1 8).f3.f1) ((rd_T68 bt560.1 8).f3.f2) (⟨#[125]⟩ : ByteArray)).bind fun t573 => (some t573)) else (none)) else (none))) else (none)) else (none)) else (none)) else (none)) else (none)) else (none)) else (none)) else (none)) else (none)) else (none)) else (none)) else (none)) else (none))) = some r := h
 clear h
 have HT := Aside0.mk hT
 clear hT
 replace H := Option.bind_eq_some_iff.mp H
 obtain ⟨⟨t560, t561, t562⟩, A10, H⟩ := H
 replace H : (if t562 = 0 then (if t561 = 22 then (if (t560.length : Int) = 9 then (if 1 < (t560.length : Int) then (if ((rd_T68 t560 1).f2).toList = ([62, 61] : List UInt8) then (if 2 < (t560.length : Int) then (if ((rd_T68 t560 2).f3.f1) = (-5) then (if 4 < (t560.length : Int) then (if ((rd_T68 t560 4).f2).toList = ([98] : List UInt8) then (if ((rd_T68 t560 4).f1) = 12 then (if 7 < (t560.length : Int) then (if ((rd_T68 t560 7).f3.f2).toList = ([120] : List UInt8) then (if 3 < (t560.length : Int) then ((lex_Word.f ((rd_T68 t560 3).f0) ((rd_T68 t560 3).f1) ((rd_T68 t560 3).f2) ((rd_T68 t560 3).f3.f0) ((rd_T68 t560 3).f3.f1) ((rd_T68 t560 3).f3.f2) (⟨#[65, 78, 68]⟩ : ByteArray)).bind fun t571 => (if t571 = true then (if 8 < (t560.length : Int) then ((lex_Mark.f ((rd_T68 t560 8).f0) ((rd_T68 t560 8).f1) ((rd_T68 t560 8).f2) ((rd_T68 t560 8).f3.f0) ((rd_T68 t560 8).f3.f1) ((rd_T68 t560 8).f3.f2) (⟨#[125]⟩ : ByteArray)).bind fun t573 => (some t573)) else (none)) else (none))) else (none)) else (none)) else (none)) else (none)) else (none)) else (none)) else (none)) else (none)) else (none)) else (none)) else (none)) else (none)) else (none)) = some r := H
 have A1 := Aside0.mk A10
 clear A10
 by_cases c2 : t562 = 0
 ·rw [if_pos c2] at H
  have c2b0 : (t562 == 0) = true := beq_iff_eq.mpr c2
  have c2b1 : (t562 != 0) = false := bne_eq_false_iff_eq.mpr c2
  clear c2
  by_cases c3 : t561 = 22
  ·rw [if_pos c3] at H
   have c3b0 : (t561 == 22) = true := beq_iff_eq.mpr c3
   have c3b1 : (t561 != 22) = false := bne_eq_false_iff_eq.mpr c3
   clear c3
   by_cases c4 : (t560.length : Int) = 9
   ·rw [if_pos c4] at H
    have c4b0 : ((t560.length : Int) == 9) = true := beq_iff_eq.mpr c4
    have c4b1 : ((t560.length : Int) != 9) = false := bne_eq_false_iff_eq.mpr c4
    clear c4
    by_cases c5 : 1 < (t560.length : Int)
    ·rw [if_pos c5] at H
     have c5b0 : decide (1 < (t560.length : Int)) = true := decide_eq_true c5
     have c5b1 : decide (1 < t560.length) = true := decide_eq_true (by omega)
     clear c5
     by_cases c6 : ((rd_T68 t560 1).f2).toList = ([62, 61] : List UInt8)
     ·rw [if_pos c6] at H
      have c6b0 : (((rd_T68 t560 1).f2).toList == ([62, 61] : List UInt8)) = true := beq_iff_eq.mpr c6
      have c6b1 : (((rd_T68 t560 1).f2).toList != ([62, 61] : List UInt8)) = false := bne_eq_false_iff_eq.mpr c6
      clear c6
      by_cases c7 : 2 < (t560.length : Int)
      ·rw [if_pos c7] at H
       have c7b0 : decide (2 < (t560.length : Int)) = true := decide_eq_true c7
       have c7b1 : decide (2 < t560.length) = true := decide_eq_true (by omega)
       clear c7
       by_cases c8 : ((rd_T68 t560 2).f3.f1) = (-5)
       ·rw [if_pos c8] at H
        have c8b0 : (((rd_T68 t560 2).f3.f1) == (-5)) = true := beq_iff_eq.mpr c8
        have c8b1 : (((rd_T68 t560 2).f3.f1) != (-5)) = false := bne_eq_false_iff_eq.mpr c8
        clear c8
        by_cases c9 : 4 < (t560.length : Int)
        ·rw [if_pos c9] at H
         have c9b0 : decide (4 < (t560.length : Int)) = true := decide_eq_true c9
         have c9b1 : decide (4 < t560.length) = true := decide_eq_true (by omega)
         clear c9
         by_cases c10 : ((rd_T68 t560 4).f2).toList = ([98] : List UInt8)
         ·rw [if_pos c10] at H
          have c10b0 : (((rd_T68 t560 4).f2).toList == ([98] : List UInt8)) = true := beq_iff_eq.mpr c10
          have c10b1 : (((rd_T68 t560 4).f2).toList != ([98] : List UInt8)) = false := bne_eq_false_iff_eq.mpr c10
          clear c10
          by_cases c11 : ((rd_T68 t560 4).f1) = 12
          ·rw [if_pos c11] at H
           have c11b0 : (((rd_T68 t560 4).f1) == 12) = true := beq_iff_eq.mpr c11
           have c11b1 : (((rd_T68 t560 4).f1) != 12) = false := bne_eq_false_iff_eq.mpr c11
           clear c11
           by_cases c12 : 7 < (t560.length : Int)
           ·rw [if_pos c12] at H
            have c12b0 : decide (7 < (t560.length : Int)) = true := decide_eq_true c12
            have c12b1 : decide (7 < t560.length) = true := decide_eq_true (by omega)
            clear c12
            by_cases c13 : ((rd_T68 t560 7).f3.f2).toList = ([120] : List UInt8)
            ·rw [if_pos c13] at H
             have c13b0 : (((rd_T68 t560 7).f3.f2).toList == ([120] : List UInt8)) = true := beq_iff_eq.mpr c13
             have c13b1 : (((rd_T68 t560 7).f3.f2).toList != ([120] : List UInt8)) = false := bne_eq_false_iff_eq.mpr c13
             clear c13
             by_cases c14 : 3 < (t560.length : Int)
             ·rw [if_pos c14] at H
              have c14b0 : decide (3 < (t560.length : Int)) = true := decide_eq_true c14
              have c14b1 : decide (3 < t560.length) = true := decide_eq_true (by omega)
              clear c14
              replace H := Option.bind_eq_some_iff.mp H
              obtain ⟨t571, A150, H⟩ := H
              replace H : (if t571 = true then (if 8 < (t560.length : Int) then ((lex_Mark.f ((rd_T68 t560 8).f0) ((rd_T68 t560 8).f1) ((rd_T68 t560 8).f2) ((rd_T68 t560 8).f3.f0) ((rd_T68 t560 8).f3.f1) ((rd_T68 t560 8).f3.f2) (⟨#[125]⟩ : ByteArray)).bind fun t573 => (some t573)) else (none)) else (none)) = some r := H
              have A15 := Aside0.mk A150
              clear A150
              by_cases c16 : t571 = true
              ·subst c16
               have H1 : (if 8 < (t560.length : Int) then ((lex_Mark.f ((rd_T68 t560 8).f0) ((rd_T68 t560 8).f1) ((rd_T68 t560 8).f2) ((rd_T68 t560 8).f3.f0) ((rd_T68 t560 8).f3.f1) ((rd_T68 t560 8).f3.f2) (⟨#[125]⟩ : ByteArray)).bind fun t573 => (some t573)) else (none)) = some r := by rw [if_pos rfl] at H; exact H
               clear H
               have H := H1
               clear H1
               by_cases c17 : 8 < (t560.length : Int)
               ·rw [if_pos c17] at H
                have c17b0 : decide (8 < (t560.length : Int)) = true := decide_eq_true c17
                have c17b1 : decide (8 < t560.length) = true := decide_eq_true (by omega)
                clear c17
                replace H := Option.bind_eq_some_iff.mp H
                obtain ⟨t573, A180, H⟩ := H
                replace H : (some t573) = some r := H
                have A18 := Aside0.mk A180
                clear A180
                obtain rfl := Option.some.inj H
                go_enter Tryd.func24, Tryd.ntmps24
                go_wp2_with (first | ((with_reducible refine gate_callee (f := 25) rfl ?_); refine goesA (some 5) Tryd.func25 #[.string (⟨#[97, 32, 62, 61, 32, 45, 53, 32, 97, 110, 100, 32, 98, 32, 105, 110, 32, 123, 34, 120, 34, 125]⟩ : ByteArray)] ?_; (with_reducible refine (lex_Lex.calls k (⟨#[97, 32, 62, 61, 32, 45, 53, 32, 97, 110, 100, 32, 98, 32, 105, 110, 32, 123, 34, 120, 34, 125]⟩ : ByteArray) t560 t561 t562 _ ?side1 A1.out).mono ?_); (case side1 => exact Tabs.below HT.out bwA); rintro e w19 ⟨v563, rfl, ho0, hb⟩; refine ⟨_, rfl, ?_⟩; have n0_ := Aside0.mk (Kd.R_lower ho0 (below_size bwA)); have n1_ := Aside0.mk (below_step bwA hb); clear HB; have HO564 := n0_; have HB := n1_; clear n0_ n1_; (try clear hb); (try clear hb2); (try clear hk); (try clear hi); (try clear ho0); obtain ⟨Ao20, co20, eo20⟩ := Kd.R_slice HO564.out; subst eo20; have p565 : 0 ≤ (1 : Int) := (by omega); have q565 : 1 < (t560.length : Int) := of_decide_eq_true (by first | (with_reducible assumption) | assumption); obtain ⟨ad565, e565, hx565_0, hx565_1, hx565_2, hx565_3, hx565_4, hx565_5⟩ := at_T68 (Kd.R_reads' HO564.out).2.2 1 p565 q565; cases e565; (try simp only [show (1 : Int).toNat = 1 from rfl, Nat.reduceMul, Nat.reduceEqDiff, Go.Addr.add, ↓reduceIte] at hx565_0); (try simp only [show (1 : Int).toNat = 1 from rfl, Nat.reduceMul, Nat.reduceEqDiff, Go.Addr.add, ↓reduceIte] at hx565_1); (try simp only [show (1 : Int).toNat = 1 from rfl, Nat.reduceMul, Nat.reduceEqDiff, Go.Addr.add, ↓reduceIte] at hx565_2); (try simp only [show (1 : Int).toNat = 1 from rfl, Nat.reduceMul, Nat.reduceEqDiff, Go.Addr.add, ↓reduceIte] at hx565_3); (try simp only [show (1 : Int).toNat = 1 from rfl, Nat.reduceMul, Nat.reduceEqDiff, Go.Addr.add, ↓reduceIte] at hx565_4); (try simp only [show (1 : Int).toNat = 1 from rfl, Nat.reduceMul, Nat.reduceEqDiff, Go.Addr.add, ↓reduceIte] at hx565_5); have qi565 : (1 < t560.length) = True := eq_true (by omega); (try rw [show ((1 : Int)).toNat = 1 from rfl] at hx565_0); (try rw [show 1 * 6 = 6 from rfl] at hx565_0); (try rw [show ((1 : Int)).toNat = 1 from rfl] at hx565_1); (try rw [show 1 * 6 = 6 from rfl] at hx565_1); (try rw [show ((1 : Int)).toNat = 1 from rfl] at hx565_2); (try rw [show 1 * 6 = 6 from rfl] at hx565_2); (try rw [show ((1 : Int)).toNat = 1 from rfl] at hx565_3); (try rw [show 1 * 6 = 6 from rfl] at hx565_3); (try rw [show ((1 : Int)).toNat = 1 from rfl] at hx565_4); (try rw [show 1 * 6 = 6 from rfl] at hx565_4); (try rw [show ((1 : Int)).toNat = 1 from rfl] at hx565_5); (try rw [show 1 * 6 = 6 from rfl] at hx565_5); replace p565 := eq_true p565; replace q565 := eq_true q565; have p566 : 0 ≤ (2 : Int) := (by omega); have q566 : 2 < (t560.length : Int) := of_decide_eq_true (by first | (with_reducible assumption) | assumption); obtain ⟨ad566, e566, hx566_0, hx566_1, hx566_2, hx566_3, hx566_4, hx566_5⟩ := at_T68 (Kd.R_reads' HO564.out).2.2 2 p566 q566; obtain rfl : ad565 = ad566 := (by injection e566); (try simp only [show (2 : Int).toNat = 2 from rfl, Nat.reduceMul, Nat.reduceEqDiff, Go.Addr.add, ↓reduceIte] at hx566_0); (try simp only [show (2 : Int).toNat = 2 from rfl, Nat.reduceMul, Nat.reduceEqDiff, Go.Addr.add, ↓reduceIte] at hx566_1); (try simp only [show (2 : Int).toNat = 2 from rfl, Nat.reduceMul, Nat.reduceEqDiff, Go.Addr.add, ↓reduceIte] at hx566_2); (try simp only [show (2 : Int).toNat = 2 from rfl, Nat.reduceMul, Nat.reduceEqDiff, Go.Addr.add, ↓reduceIte] at hx566_3); (try simp only [show (2 : Int).toNat = 2 from rfl, Nat.reduceMul, Nat.reduceEqDiff, Go.Addr.add, ↓reduceIte] at hx566_4); (try simp only [show (2 : Int).toNat = 2 from rfl, Nat.reduceMul, Nat.reduceEqDiff, Go.Addr.add, ↓reduceIte] at hx566_5); have qi566 : (2 < t560.length) = True := eq_true (by omega); (try rw [show ((2 : Int)).toNat = 2 from rfl] at hx566_0); (try rw [show 2 * 6 = 12 from rfl] at hx566_0); (try rw [show ((2 : Int)).toNat = 2 from rfl] at hx566_1); (try rw [show 2 * 6 = 12 from rfl] at hx566_1); (try rw [show ((2 : Int)).toNat = 2 from rfl] at hx566_2); (try rw [show 2 * 6 = 12 from rfl] at hx566_2); (try rw [show ((2 : Int)).toNat = 2 from rfl] at hx566_3); (try rw [show 2 * 6 = 12 from rfl] at hx566_3); (try rw [show ((2 : Int)).toNat = 2 from rfl] at hx566_4); (try rw [show 2 * 6 = 12 from rfl] at hx566_4); (try rw [show ((2 : Int)).toNat = 2 from rfl] at hx566_5); (try rw [show 2 * 6 = 12 from rfl] at hx566_5); replace p566 := eq_true p566; replace q566 := eq_true q566; have p567 : 0 ≤ (4 : Int) := (by omega); have q567 : 4 < (t560.length : Int) := of_decide_eq_true (by first | (with_reducible assumption) | assumption); obtain ⟨ad567, e567, hx567_0, hx567_1, hx567_2, hx567_3, hx567_4, hx567_5⟩ := at_T68 (Kd.R_reads' HO564.out).2.2 4 p567 q567; obtain rfl : ad565 = ad567 := (by injection e567); (try simp only [show (4 : Int).toNat = 4 from rfl, Nat.reduceMul, Nat.reduceEqDiff, Go.Addr.add, ↓reduceIte] at hx567_0); (try simp only [show (4 : Int).toNat = 4 from rfl, Nat.reduceMul, Nat.reduceEqDiff, Go.Addr.add, ↓reduceIte] at hx567_1); (try simp only [show (4 : Int).toNat = 4 from rfl, Nat.reduceMul, Nat.reduceEqDiff, Go.Addr.add, ↓reduceIte] at hx567_2); (try simp only [show (4 : Int).toNat = 4 from rfl, Nat.reduceMul, Nat.reduceEqDiff, Go.Addr.add, ↓reduceIte] at hx567_3); (try simp only [show (4 : Int).toNat = 4 from rfl, Nat.reduceMul, Nat.reduceEqDiff, Go.Addr.add, ↓reduceIte] at hx567_4); (try simp only [show (4 : Int).toNat = 4 from rfl, Nat.reduceMul, Nat.reduceEqDiff, Go.Addr.add, ↓reduceIte] at hx567_5); have qi567 : (4 < t560.length) = True := eq_true (by omega); (try rw [show ((4 : Int)).toNat = 4 from rfl] at hx567_0); (try rw [show 4 * 6 = 24 from rfl] at hx567_0); (try rw [show ((4 : Int)).toNat = 4 from rfl] at hx567_1); (try rw [show 4 * 6 = 24 from rfl] at hx567_1); (try rw [show ((4 : Int)).toNat = 4 from rfl] at hx567_2); (try rw [show 4 * 6 = 24 from rfl] at hx567_2); (try rw [show ((4 : Int)).toNat = 4 from rfl] at hx567_3); (try rw [show 4 * 6 = 24 from rfl] at hx567_3); (try rw [show ((4 : Int)).toNat = 4 from rfl] at hx567_4); (try rw [show 4 * 6 = 24 from rfl] at hx567_4); (try rw [show ((4 : Int)).toNat = 4 from rfl] at hx567_5); (try rw [show 4 * 6 = 24 from rfl] at hx567_5); replace p567 := eq_true p567; replace q567 := eq_true q567; have p568 : 0 ≤ (4 : Int) := (by omega); have q568 : 4 < (t560.length : Int) := of_decide_eq_true (by first | (with_reducible assumption) | assumption); obtain ⟨ad568, e568, hx568_0, hx568_1, hx568_2, hx568_3, hx568_4, hx568_5⟩ := at_T68 (Kd.R_reads' HO564.out).2.2 4 p568 q568; obtain rfl : ad565 = ad568 := (by injection e568); (try simp only [show (4 : Int).toNat = 4 from rfl, Nat.reduceMul, Nat.reduceEqDiff, Go.Addr.add, ↓reduceIte] at hx568_0); (try simp only [show (4 : Int).toNat = 4 from rfl, Nat.reduceMul, Nat.reduceEqDiff, Go.Addr.add, ↓reduceIte] at hx568_1); (try simp only [show (4 : Int).toNat = 4 from rfl, Nat.reduceMul, Nat.reduceEqDiff, Go.Addr.add, ↓reduceIte] at hx568_2); (try simp only [show (4 : Int).toNat = 4 from rfl, Nat.reduceMul, Nat.reduceEqDiff, Go.Addr.add, ↓reduceIte] at hx568_3); (try simp only [show (4 : Int).toNat = 4 from rfl, Nat.reduceMul, Nat.reduceEqDiff, Go.Addr.add, ↓reduceIte] at hx568_4); (try simp only [show (4 : Int).toNat = 4 from rfl, Nat.reduceMul, Nat.reduceEqDiff, Go.Addr.add, ↓reduceIte] at hx568_5); have qi568 : (4 < t560.length) = True := eq_true (by omega); (try rw [show ((4 : Int)).toNat = 4 from rfl] at hx568_0); (try rw [show 4 * 6 = 24 from rfl] at hx568_0); (try rw [show ((4 : Int)).toNat = 4 from rfl] at hx568_1); (try rw [show 4 * 6 = 24 from rfl] at hx568_1); (try rw [show ((4 : Int)).toNat = 4 from rfl] at hx568_2); (try rw [show 4 * 6 = 24 from rfl] at hx568_2); (try rw [show ((4 : Int)).toNat = 4 from rfl] at hx568_3); (try rw [show 4 * 6 = 24 from rfl] at hx568_3); (try rw [show ((4 : Int)).toNat = 4 from rfl] at hx568_4); (try rw [show 4 * 6 = 24 from rfl] at hx568_4); (try rw [show ((4 : Int)).toNat = 4 from rfl] at hx568_5); (try rw [show 4 * 6 = 24 from rfl] at hx568_5); replace p568 := eq_true p568; replace q568 := eq_true q568; have p569 : 0 ≤ (7 : Int) := (by omega); have q569 : 7 < (t560.length : Int) := of_decide_eq_true (by first | (with_reducible assumption) | assumption); obtain ⟨ad569, e569, hx569_0, hx569_1, hx569_2, hx569_3, hx569_4, hx569_5⟩ := at_T68 (Kd.R_reads' HO564.out).2.2 7 p569 q569; obtain rfl : ad565 = ad569 := (by injection e569); (try simp only [show (7 : Int).toNat = 7 from rfl, Nat.reduceMul, Nat.reduceEqDiff, Go.Addr.add, ↓reduceIte] at hx569_0); (try simp only [show (7 : Int).toNat = 7 from rfl, Nat.reduceMul, Nat.reduceEqDiff, Go.Addr.add, ↓reduceIte] at hx569_1); (try simp only [show (7 : Int).toNat = 7 from rfl, Nat.reduceMul, Nat.reduceEqDiff, Go.Addr.add, ↓reduceIte] at hx569_2); (try simp only [show (7 : Int).toNat = 7 from rfl, Nat.reduceMul, Nat.reduceEqDiff, Go.Addr.add, ↓reduceIte] at hx569_3); (try simp only [show (7 : Int).toNat = 7 from rfl, Nat.reduceMul, Nat.reduceEqDiff, Go.Addr.add, ↓reduceIte] at hx569_4); (try simp only [show (7 : Int).toNat = 7 from rfl, Nat.reduceMul, Nat.reduceEqDiff, Go.Addr.add, ↓reduceIte] at hx569_5); have qi569 : (7 < t560.length) = True := eq_true (by omega); (try rw [show ((7 : Int)).toNat = 7 from rfl] at hx569_0); (try rw [show 7 * 6 = 42 from rfl] at hx569_0); (try rw [show ((7 : Int)).toNat = 7 from rfl] at hx569_1); (try rw [show 7 * 6 = 42 from rfl] at hx569_1); (try rw [show ((7 : Int)).toNat = 7 from rfl] at hx569_2); (try rw [show 7 * 6 = 42 from rfl] at hx569_2); (try rw [show ((7 : Int)).toNat = 7 from rfl] at hx569_3); (try rw [show 7 * 6 = 42 from rfl] at hx569_3); (try rw [show ((7 : Int)).toNat = 7 from rfl] at hx569_4); (try rw [show 7 * 6 = 42 from rfl] at hx569_4); (try rw [show ((7 : Int)).toNat = 7 from rfl] at hx569_5); (try rw [show 7 * 6 = 42 from rfl] at hx569_5); replace p569 := eq_true p569; replace q569 := eq_true q569; have p570 : 0 ≤ (3 : Int) := (by omega); have q570 : 3 < (t560.length : Int) := of_decide_eq_true (by first | (with_reducible assumption) | assumption); obtain ⟨ad570, e570, hx570_0, hx570_1, hx570_2, hx570_3, hx570_4, hx570_5⟩ := at_T68 (Kd.R_reads' HO564.out).2.2 3 p570 q570; obtain rfl : ad565 = ad570 := (by injection e570); (try simp only [show (3 : Int).toNat = 3 from rfl, Nat.reduceMul, Nat.reduceEqDiff, Go.Addr.add, ↓reduceIte] at hx570_0); (try simp only [show (3 : Int).toNat = 3 from rfl, Nat.reduceMul, Nat.reduceEqDiff, Go.Addr.add, ↓reduceIte] at hx570_1); (try simp only [show (3 : Int).toNat = 3 from rfl, Nat.reduceMul, Nat.reduceEqDiff, Go.Addr.add, ↓reduceIte] at hx570_2); (try simp only [show (3 : Int).toNat = 3 from rfl, Nat.reduceMul, Nat.reduceEqDiff, Go.Addr.add, ↓reduceIte] at hx570_3); (try simp only [show (3 : Int).toNat = 3 from rfl, Nat.reduceMul, Nat.reduceEqDiff, Go.Addr.add, ↓reduceIte] at hx570_4); (try simp only [show (3 : Int).toNat = 3 from rfl, Nat.reduceMul, Nat.reduceEqDiff, Go.Addr.add, ↓reduceIte] at hx570_5); have qi570 : (3 < t560.length) = True := eq_true (by omega); (try rw [show ((3 : Int)).toNat = 3 from rfl] at hx570_0); (try rw [show 3 * 6 = 18 from rfl] at hx570_0); (try rw [show ((3 : Int)).toNat = 3 from rfl] at hx570_1); (try rw [show 3 * 6 = 18 from rfl] at hx570_1); (try rw [show ((3 : Int)).toNat = 3 from rfl] at hx570_2); (try rw [show 3 * 6 = 18 from rfl] at hx570_2); (try rw [show ((3 : Int)).toNat = 3 from rfl] at hx570_3); (try rw [show 3 * 6 = 18 from rfl] at hx570_3); (try rw [show ((3 : Int)).toNat = 3 from rfl] at hx570_4); (try rw [show 3 * 6 = 18 from rfl] at hx570_4); (try rw [show ((3 : Int)).toNat = 3 from rfl] at hx570_5); (try rw [show 3 * 6 = 18 from rfl] at hx570_5); replace p570 := eq_true p570; replace q570 := eq_true q570) | (go_at_call 51; (with_reducible refine (lex_Word.calls ((rd_T68 t560 3).f0) ((rd_T68 t560 3).f1) ((rd_T68 t560 3).f2) ((rd_T68 t560 3).f3.f0) ((rd_T68 t560 3).f3.f1) ((rd_T68 t560 3).f3.f2) (⟨#[65, 78, 68]⟩ : ByteArray) true _ ?side1 A15.out).mono ?_); (case side1 => exact Tabs.below HT.out bwA); rintro e w21 ⟨rfl, hb⟩; have n0_ := Aside0.mk (Kd.R_below (by (with_reducible repeat (first | apply Kd.R_alloc | apply Kd.R_drewN | apply Kd.R_drew)); exact HO564.out) hb); have n1_ := Aside0.mk (below_step bwA hb); clear HO564; clear HB; have HO564 := n0_; have HB := n1_; clear n0_ n1_; (try clear hb); (try clear hb2); (try clear hk); (try clear hi); have p572 : 0 ≤ (8 : Int) := (by omega); have q572 : 8 < (t560.length : Int) := of_decide_eq_true (by first | (with_reducible assumption) | assumption); obtain ⟨ad572, e572, hx572_0, hx572_1, hx572_2, hx572_3, hx572_4, hx572_5⟩ := at_T68 (Kd.R_reads' HO564.out).2.2 8 p572 q572; obtain rfl : ad565 = ad572 := (by injection e572); (try simp only [show (8 : Int).toNat = 8 from rfl, Nat.reduceMul, Nat.reduceEqDiff, Go.Addr.add, ↓reduceIte] at hx572_0); (try simp only [show (8 : Int).toNat = 8 from rfl, Nat.reduceMul, Nat.reduceEqDiff, Go.Addr.add, ↓reduceIte] at hx572_1); (try simp only [show (8 : Int).toNat = 8 from rfl, Nat.reduceMul, Nat.reduceEqDiff, Go.Addr.add, ↓reduceIte] at hx572_2); (try simp only [show (8 : Int).toNat = 8 from rfl, Nat.reduceMul, Nat.reduceEqDiff, Go.Addr.add, ↓reduceIte] at hx572_3); (try simp only [show (8 : Int).toNat = 8 from rfl, Nat.reduceMul, Nat.reduceEqDiff, Go.Addr.add, ↓reduceIte] at hx572_4); (try simp only [show (8 : Int).toNat = 8 from rfl, Nat.reduceMul, Nat.reduceEqDiff, Go.Addr.add, ↓reduceIte] at hx572_5); have qi572 : (8 < t560.length) = True := eq_true (by omega); (try rw [show ((8 : Int)).toNat = 8 from rfl] at hx572_0); (try rw [show 8 * 6 = 48 from rfl] at hx572_0); (try rw [show ((8 : Int)).toNat = 8 from rfl] at hx572_1); (try rw [show 8 * 6 = 48 from rfl] at hx572_1); (try rw [show ((8 : Int)).toNat = 8 from rfl] at hx572_2); (try rw [show 8 * 6 = 48 from rfl] at hx572_2); (try rw [show ((8 : Int)).toNat = 8 from rfl] at hx572_3); (try rw [show 8 * 6 = 48 from rfl] at hx572_3); (try rw [show ((8 : Int)).toNat = 8 from rfl] at hx572_4); (try rw [show 8 * 6 = 48 from rfl] at hx572_4); (try rw [show ((8 : Int)).toNat = 8 from rfl] at hx572_5); (try rw [show 8 * 6 = 48 from rfl] at hx572_5); replace p572 := eq_true p572; replace q572 := eq_true q572) | (go_at_call 52; (with_reducible refine (lex_Mark.calls ((rd_T68 t560 8).f0) ((rd_T68 t560 8).f1) ((rd_T68 t560 8).f2) ((rd_T68 t560 8).f3.f0) ((rd_T68 t560 8).f3.f1) ((rd_T68 t560 8).f3.f2) (⟨#[125]⟩ : ByteArray) t573 _ A18.out).mono ?_); rintro e w22 ⟨rfl, hb⟩; have n0_ := Aside0.mk (Kd.R_below (by (with_reducible repeat (first | apply Kd.R_alloc | apply Kd.R_drewN | apply Kd.R_drew)); exact HO564.out) hb); have n1_ := Aside0.mk (below_step bwA hb); clear HO564; clear HB; have HO564 := n0_; have HB := n1_; clear n0_ n1_; (try clear hb); (try clear hb2); (try clear hk); (try clear hi)))
                go_ret
                exact ⟨by first | rfl | (simp [errW_none, errW_some] <;> rfl) | (simp [*, errW_none, errW_some] <;> rfl), by repeat (first | (with_reducible first | exact HB.out | apply below_alloc | apply pw_below_drewN | apply below_drew1) | exact HB.out)⟩
               ·rw [if_neg c17] at H
                exact absurd H (by simp)
              ·replace c16 := Bool.eq_false_iff.mpr c16
               subst c16
               have H1 : (none) = some r := by rw [if_neg (show ¬ (false = true) by decide)] at H; exact H
               clear H
               have H := H1
               clear H1
               exact absurd H (by simp)
             ·rw [if_neg c14] at H
              exact absurd H (by simp)
            ·rw [if_neg c13] at H
             exact absurd H (by simp)
           ·rw [if_neg c12] at H
            exact absurd H (by simp)
          ·rw [if_neg c11] at H
           exact absurd H (by simp)
         ·rw [if_neg c10] at H
          exact absurd H (by simp)
        ·rw [if_neg c9] at H
         exact absurd H (by simp)
       ·rw [if_neg c8] at H
        exact absurd H (by simp)
      ·rw [if_neg c7] at H
       exact absurd H (by simp)
     ·rw [if_neg c6] at H
      exact absurd H (by simp)
    ·rw [if_neg c5] at H
     exact absurd H (by simp)
   ·rw [if_neg c4] at H
    exact absurd H (by simp)
  ·rw [if_neg c3] at H
   exact absurd H (by simp)
 ·rw [if_neg c2] at H
  exact absurd H (by simp)

end Go.Proofs.YtoajlmmkkcelgaaDoor.A
