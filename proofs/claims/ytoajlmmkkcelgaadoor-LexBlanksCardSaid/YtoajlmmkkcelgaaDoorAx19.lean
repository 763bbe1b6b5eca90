-- By drv.py, the session's own driver round the kit's print: the machine's side of the laws, function by function. Not trusted: Lean checks it.
import Derived.Test.YtoajlmmkkcelgaaDoorAx0
import Derived.Test.YtoajlmmkkcelgaaDoorAx10
import Derived.Test.YtoajlmmkkcelgaaDoorAx18
namespace Go.Proofs.YtoajlmmkkcelgaaDoor.A
open Go.RowKit Go.Proofs.YtoajlmmkkcelgaaDoorW.PrintWords Go.Proofs.YtoajlmmkkcelgaaDoorW.PrintLast Go.Proofs.YtoajlmmkkcelgaaDoorW.PrintMore
attribute [local go_sem] max2_int min2_int max_two min_two max_three min_three max_four min_four   -- for this text's walks alone
set_option linter.unusedVariables false
set_option linter.unusedSimpArgs false

/-! ### name_Small: function 145 -/
def name_Small.f (a0 : Int) : Option (Int) := (name_between.f a0 65 90).bind fun t594 => (if t594 = true then (some (wrap32 (a0 + 32))) else ((name_between.f a0 192 222).bind fun t595 => (if t595 = true then (if a0 = 215 then ((name_between.f a0 913 937).bind fun t596 => (if t596 = true then (if a0 = 930 then ((name_between.f a0 1040 1071).bind fun t597 => (if t597 = true then (some (wrap32 (a0 + 32))) else (some a0))) else (some (wrap32 (a0 + 32)))) else ((name_between.f a0 1040 1071).bind fun t598 => (if t598 = true then (some (wrap32 (a0 + 32))) else (some a0))))) else (some (wrap32 (a0 + 32)))) else ((name_between.f a0 913 937).bind fun t599 => (if t599 = true then (if a0 = 930 then ((name_between.f a0 1040 1071).bind fun t600 => (if t600 = true then (some (wrap32 (a0 + 32))) else (some a0))) else (some (wrap32 (a0 + 32)))) else ((name_between.f a0 1040 1071).bind fun t601 => (if t601 = true then (some (wrap32 (a0 + 32))) else (some a0))))))))
set_option maxHeartbeats 8000000 in
set_option maxRecDepth 100000 in
theorem name_Small.calls (a0 : Int) (r : Int) (w : World) (h : name_Small.f a0 = some r) :
  Calls Tryd.prog 145 #[.int .i32 a0] w fun e w' => e = .returned (.int .i32 r) ∧ Drawn0 w w' := by
 have H : ((name_between.f a0 65 90).bind fun t594 => (if t594 = true then (some (wrap32 (a0 + 32))) else ((name_between.f a0 192 222).bind fun t595 => (if t595 = true then (if a0 = 215 then ((name_between.f a0 913 937).bind fun t596 => (if t596 = true then (if a0 = 930 then ((name_between.f a0 1040 1071).bind fun t597 => (if t597 = true then (some (wrap32 (a0 + 32))) else (some a0))) else (some (wrap32 (a0 + 32)))) else ((name_between.f a0 1040 1071).bind fun t598 => (if t598 = true then (some (wrap32 (a0 + 32))) else (some a0))))) else (some (wrap32 (a0 + 32)))) else ((name_between.f a0 913 937).bind fun t599 => (if t599 = true then (if a0 = 930 then ((name_between.f a0 1040 1071).bind fun t600 => (if t600 = true then (some (wrap32 (a0 + 32))) else (some a0))) else (some (wrap32 (a0 + 32)))) else ((name_between.f a0 1040 1071).bind fun t601 => (if t601 = true then (some (wrap32 (a0 + 32))) else (some a0))))))))) = some r := h
 clear h
 replace H := Option.bind_eq_some_iff.mp H
 obtain ⟨t594, A20, H⟩ := H
 replace H : (if t594 = true then (some (wrap32 (a0 + 32))) else ((name_between.f a0 192 222).bind fun t595 => (if t595 = true then (if a0 = 215 then ((name_between.f a0 913 937).bind fun t596 => (if t596 = true then (if a0 = 930 then ((name_between.f a0 1040 1071).bind fun t597 => (if t597 = true then (some (wrap32 (a0 + 32))) else (some a0))) else (some (wrap32 (a0 + 32)))) else ((name_between.f a0 1040 1071).bind fun t598 => (if t598 = true then (some (wrap32 (a0 + 32))) else (some a0))))) else (some (wrap32 (a0 + 32)))) else ((name_between.f a0 913 937).bind fun t599 => (if t599 = true then (if a0 = 930 then ((name_between.f a0 1040 1071).bind fun t600 => (if t600 = true then (some (wrap32 (a0 + 32))) else (some a0))) else (some (wrap32 (a0 + 32)))) else ((name_between.f a0 1040 1071).bind fun t601 => (if t601 = true then (some (wrap32 (a0 + 32))) else (some a0)))))))) = some r := H
 have A2 := Aside0.mk A20
 clear A20
 by_cases c3 : t594 = true
 ·subst c3
  have H1 : (some (wrap32 (a0 + 32))) = some r := by rw [if_pos rfl] at H; exact H
  clear H
  have H := H1
  clear H1
  obtain rfl := Option.some.inj H
  go_enter Tryd.func145, Tryd.ntmps145
  go_wp2_with (first | ((with_reducible refine gate_callee (f := 144) rfl ?_); refine goesA (some 4) Tryd.func144 #[.int .i32 a0, .int .i32 65, .int .i32 90] ?_; (with_reducible refine (name_between.calls a0 65 90 true _ A2.out).mono ?_); rintro e w' ⟨rfl, ⟨nd, rfl⟩⟩; refine ⟨_, rfl, ?_⟩))
  go_ret
  exact ⟨by first | rfl | (simp; done) | (simp [*]; done) | (simp [wrap64]; done), by repeat (first | exact Drawn0.refl _ | apply Drawn0.step)⟩
 ·replace c3 := Bool.eq_false_iff.mpr c3
  subst c3
  have H1 : ((name_between.f a0 192 222).bind fun t595 => (if t595 = true then (if a0 = 215 then ((name_between.f a0 913 937).bind fun t596 => (if t596 = true then (if a0 = 930 then ((name_between.f a0 1040 1071).bind fun t597 => (if t597 = true then (some (wrap32 (a0 + 32))) else (some a0))) else (some (wrap32 (a0 + 32)))) else ((name_between.f a0 1040 1071).bind fun t598 => (if t598 = true then (some (wrap32 (a0 + 32))) else (some a0))))) else (some (wrap32 (a0 + 32)))) else ((name_between.f a0 913 937).bind fun t599 => (if t599 = true then (if a0 = 930 then ((name_between.f a0 1040 1071).bind fun t600 => (if t600 = true then (some (wrap32 (a0 + 32))) else (some a0))) else (some (wrap32 (a0 + 32)))) else ((name_between.f a0 1040 1071).bind fun t601 => (if t601 = true then (some (wrap32 (a0 + 32))) else (some a0))))))) = some r := by rw [if_neg (show ¬ (false = true) by decide)] at H; exact H
  clear H
  have H := H1
  clear H1
  replace H := Option.bind_eq_some_iff.mp H
  obtain ⟨t595, A40, H⟩ := H
  replace H : (if t595 = true then (if a0 = 215 then ((name_between.f a0 913 937).bind fun t596 => (if t596 = true then (if a0 = 930 then ((name_between.f a0 1040 1071).bind fun t597 => (if t597 = true then (some (wrap32 (a0 + 32))) else (some a0))) else (some (wrap32 (a0 + 32)))) else ((name_between.f a0 1040 1071).bind fun t598 => (if t598 = true then (some (wrap32 (a0 + 32))) else (some a0))))) else (some (wrap32 (a0 + 32)))) else ((name_between.f a0 913 937).bind fun t599 => (if t599 = true then (if a0 = 930 then ((name_between.f a0 1040 1071).bind fun t600 => (if t600 = true then (some (wrap32 (a0 + 32))) else (some a0))) else (some (wrap32 (a0 + 32)))) else ((name_between.f a0 1040 1071).bind fun t601 => (if t601 = true then (some (wrap32 (a0 + 32))) else (some a0)))))) = some r := H
  have A4 := Aside0.mk A40
  clear A40
  by_cases c5 : t595 = true
  ·subst c5
   have H1 : (if a0 = 215 then ((name_between.f a0 913 937).bind fun t596 => (if t596 = true then (if a0 = 930 then ((name_between.f a0 1040 1071).bind fun t597 => (if t597 = true then (some (wrap32 (a0 + 32))) else (some a0))) else (some (wrap32 (a0 + 32)))) else ((name_between.f a0 1040 1071).bind fun t598 => (if t598 = true then (some (wrap32 (a0 + 32))) else (some a0))))) else (some (wrap32 (a0 + 32)))) = some r := by rw [if_pos rfl] at H; exact H
   clear H
   have H := H1
   clear H1
   by_cases c6 : a0 = 215
   ·rw [if_pos c6] at H
    have c6b0 : (a0 == 215) = true := beq_iff_eq.mpr c6
    have c6b1 : (a0 != 215) = false := bne_eq_false_iff_eq.mpr c6
    clear c6
    replace H := Option.bind_eq_some_iff.mp H
    obtain ⟨t596, A70, H⟩ := H
    replace H : (if t596 = true then (if a0 = 930 then ((name_between.f a0 1040 1071).bind fun t597 => (if t597 = true then (some (wrap32 (a0 + 32))) else (some a0))) else (some (wrap32 (a0 + 32)))) else ((name_between.f a0 1040 1071).bind fun t598 => (if t598 = true then (some (wrap32 (a0 + 32))) else (some a0)))) = some r := H
    have A7 := Aside0.mk A70
    clear A70
    by_cases c8 : t596 = true
    ·subst c8
     have H1 : (if a0 = 930 then ((name_between.f a0 1040 1071).bind fun t597 => (if t597 = true then (some (wrap32 (a0 + 32))) else (some a0))) else (some (wrap32 (a0 + 32)))) = some r := by rw [if_pos rfl] at H; exact H
     clear H
     have H := H1
     clear H1
     by_cases c9 : a0 = 930
     ·rw [if_pos c9] at H
      have c9b0 : (a0 == 930) = true := beq_iff_eq.mpr c9
      have c9b1 : (a0 != 930) = false := bne_eq_false_iff_eq.mpr c9
      clear c9
      replace H := Option.bind_eq_some_iff.mp H
      obtain ⟨t597, A100, H⟩ := H
      replace H : (if t597 = true then (some (wrap32 (a0 + 32))) else (some a0)) = some r := H
      have A10 := Aside0.mk A100
      clear A100
      by_cases c11 : t597 = true
      ·subst c11
       have H1 : (some (wrap32 (a0 + 32))) = some r := by rw [if_pos rfl] at H; exact H
       clear H
       have H := H1
       clear H1
       obtain rfl := Option.some.inj H
       go_enter Tryd.func145, Tryd.ntmps145
       go_wp2_with (first | ((with_reducible refine gate_callee (f := 144) rfl ?_); refine goesA (some 4) Tryd.func144 #[.int .i32 a0, .int .i32 65, .int .i32 90] ?_; (with_reducible refine (name_between.calls a0 65 90 false _ A2.out).mono ?_); rintro e w' ⟨rfl, ⟨nd, rfl⟩⟩; refine ⟨_, rfl, ?_⟩) | (go_at_call 144; (with_reducible refine (name_between.calls a0 192 222 true _ A4.out).mono ?_); rintro e w' ⟨rfl, ⟨nd, rfl⟩⟩) | (go_at_call 144; (with_reducible refine (name_between.calls a0 913 937 true _ A7.out).mono ?_); rintro e w' ⟨rfl, ⟨nd, rfl⟩⟩) | (go_at_call 144; (with_reducible refine (name_between.calls a0 1040 1071 true _ A10.out).mono ?_); rintro e w' ⟨rfl, ⟨nd, rfl⟩⟩))
       go_ret
       exact ⟨by first | rfl | (simp; done) | (simp [*]; done) | (simp [wrap64]; done), by repeat (first | exact Drawn0.refl _ | apply Drawn0.step)⟩
      ·replace c11 := Bool.eq_false_iff.mpr c11
       subst c11
       have H1 : (some a0) = some r := by rw [if_neg (show ¬ (false = true) by decide)] at H; exact H
       clear H
       have H := H1
       clear H1
       obtain rfl := Option.some.inj H
       go_enter Tryd.func145, Tryd.ntmps145
       go_wp2_with (first | ((with_reducible refine gate_callee (f := 144) rfl ?_); refine goesA (some 4) Tryd.func144 #[.int .i32 a0, .int .i32 65, .int .i32 90] ?_; (with_reducible refine (name_between.calls a0 65 90 false _ A2.out).mono ?_); rintro e w' ⟨rfl, ⟨nd, rfl⟩⟩; refine ⟨_, rfl, ?_⟩) | (go_at_call 144; (with_reducible refine (name_between.calls a0 192 222 true _ A4.out).mono ?_); rintro e w' ⟨rfl, ⟨nd, rfl⟩⟩) | (go_at_call 144; (with_reducible refine (name_between.calls a0 913 937 true _ A7.out).mono ?_); rintro e w' ⟨rfl, ⟨nd, rfl⟩⟩) | (go_at_call 144; (with_reducible refine (name_between.calls a0 1040 1071 false _ A10.out).mono ?_); rintro e w' ⟨rfl, ⟨nd, rfl⟩⟩))
       go_ret
       exact ⟨by first | rfl | (simp; done) | (simp [*]; done) | (simp [wrap64]; done), by repeat (first | exact Drawn0.refl _ | apply Drawn0.step)⟩
     ·rw [if_neg c9] at H
      have c9b0 : (a0 == 930) = false := beq_eq_false_iff_ne.mpr c9
      have c9b1 : (a0 != 930) = true := bne_iff_ne.mpr c9
      obtain rfl := Option.some.inj H
      go_enter Tryd.func145, Tryd.ntmps145
      go_wp2_with (first | ((with_reducible refine gate_callee (f := 144) rfl ?_); refine goesA (some 4) Tryd.func144 #[.int .i32 a0, .int .i32 65, .int .i32 90] ?_; (with_reducible refine (name_between.calls a0 65 90 false _ A2.out).mono ?_); rintro e w' ⟨rfl, ⟨nd, rfl⟩⟩; refine ⟨_, rfl, ?_⟩) | (go_at_call 144; (with_reducible refine (name_between.calls a0 192 222 true _ A4.out).mono ?_); rintro e w' ⟨rfl, ⟨nd, rfl⟩⟩) | (go_at_call 144; (with_reducible refine (name_between.calls a0 913 937 true _ A7.out).mono ?_); rintro e w' ⟨rfl, ⟨nd, rfl⟩⟩))
      go_ret
      exact ⟨by first | rfl | (simp; done) | (simp [*]; done) | (simp [wrap64]; done), by repeat (first | exact Drawn0.refl _ | apply Drawn0.step)⟩
    ·replace c8 := Bool.eq_false_iff.mpr c8
     subst c8
     have H1 : ((name_between.f a0 1040 1071).bind fun t598 => (if t598 = true then (some (wrap32 (a0 + 32))) else (some a0))) = some r := by rw [if_neg (show ¬ (false = true) by decide)] at H; exact H
     clear H
     have H := H1
     clear H1
     replace H := Option.bind_eq_some_iff.mp H
     obtain ⟨t598, A120, H⟩ := H
     replace H : (if t598 = true then (some (wrap32 (a0 + 32))) else (some a0)) = some r := H
     have A12 := Aside0.mk A120
     clear A120
     by_cases c13 : t598 = true
     ·subst c13
      have H1 : (some (wrap32 (a0 + 32))) = some r := by rw [if_pos rfl] at H; exact H
      clear H
      have H := H1
      clear H1
      obtain rfl := Option.some.inj H
      go_enter Tryd.func145, Tryd.ntmps145
      go_wp2_with (first | ((with_reducible refine gate_callee (f := 144) rfl ?_); refine goesA (some 4) Tryd.func144 #[.int .i32 a0, .int .i32 65, .int .i32 90] ?_; (with_reducible refine (name_between.calls a0 65 90 false _ A2.out).mono ?_); rintro e w' ⟨rfl, ⟨nd, rfl⟩⟩; refine ⟨_, rfl, ?_⟩) | (go_at_call 144; (with_reducible refine (name_between.calls a0 192 222 true _ A4.out).mono ?_); rintro e w' ⟨rfl, ⟨nd, rfl⟩⟩) | (go_at_call 144; (with_reducible refine (name_between.calls a0 913 937 false _ A7.out).mono ?_); rintro e w' ⟨rfl, ⟨nd, rfl⟩⟩) | (go_at_call 144; (with_reducible refine (name_between.calls a0 1040 1071 true _ A12.out).mono ?_); rintro e w' ⟨rfl, ⟨nd, rfl⟩⟩))
      go_ret
      exact ⟨by first | rfl | (simp; done) | (simp [*]; done) | (simp [wrap64]; done), by repeat (first | exact Drawn0.refl _ | apply Drawn0.step)⟩
     ·replace c13 := Bool.eq_false_iff.mpr c13
      subst c13
      have H1 : (some a0) = some r := by rw [if_neg (show ¬ (false = true) by decide)] at H; exact H
      clear H
      have H := H1
      clear H1
      obtain rfl := Option.some.inj H
      go_enter Tryd.func145, Tryd.ntmps145
      go_wp2_with (first | ((with_reducible refine gate_callee (f := 144) rfl ?_); refine goesA (some 4) Tryd.func144 #[.int .i32 a0, .int .i32 65, .int .i32 90] ?_; (with_reducible refine (name_between.calls a0 65 90 false _ A2.out).mono ?_); rintro e w' ⟨rfl, ⟨nd, rfl⟩⟩; refine ⟨_, rfl, ?_⟩) | (go_at_call 144; (with_reducible refine (name_between.calls a0 192 222 true _ A4.out).mono ?_); rintro e w' ⟨rfl, ⟨nd, rfl⟩⟩) | (go_at_call 144; (with_reducible refine (name_between.calls a0 913 937 false _ A7.out).mono ?_); rintro e w' ⟨rfl, ⟨nd, rfl⟩⟩) | (go_at_call 144; (with_reducible refine (name_between.calls a0 1040 1071 false _ A12.out).mono ?_); rintro e w' ⟨rfl, ⟨nd, rfl⟩⟩))
      go_ret
      exact ⟨by first | rfl | (simp; done) | (simp [*]; done) | (simp [wrap64]; done), by repeat (first | exact Drawn0.refl _ | apply Drawn0.step)⟩
   ·rw [if_neg c6] at H
    have c6b0 : (a0 == 215) = false := beq_eq_false_iff_ne.mpr c6
    have c6b1 : (a0 != 215) = true := bne_iff_ne.mpr c6
    obtain rfl := Option.some.inj H
    go_enter Tryd.func145, Tryd.ntmps145
    go_wp2_with (first | ((with_reducible refine gate_callee (f := 144) rfl ?_); refine goesA (some 4) Tryd.func144 #[.int .i32 a0, .int .i32 65, .int .i32 90] ?_; (with_reducible refine (name_between.calls a0 65 90 false _ A2.out).mono ?_); rintro e w' ⟨rfl, ⟨nd, rfl⟩⟩; refine ⟨_, rfl, ?_⟩) | (go_at_call 144; (with_reducible refine (name_between.calls a0 192 222 true _ A4.out).mono ?_); rintro e w' ⟨rfl, ⟨nd, rfl⟩⟩))
    go_ret
    exact ⟨by first | rfl | (simp; done) | (simp [*]; done) | (simp [wrap64]; done), by repeat (first | exact Drawn0.refl _ | apply Drawn0.step)⟩
  ·replace c5 := Bool.eq_false_iff.mpr c5
   subst c5
   have H1 : ((name_between.f a0 913 937).bind fun t599 => (if t599 = true then (if a0 = 930 then ((name_between.f a0 1040 1071).bind fun t600 => (if t600 = true then (some (wrap32 (a0 + 32))) else (some a0))) else (some (wrap32 (a0 + 32)))) else ((name_between.f a0 1040 1071).bind fun t601 => (if t601 = true then (some (wrap32 (a0 + 32))) else (some a0))))) = some r := by rw [if_neg (show ¬ (false = true) by decide)] at H; exact H
   clear H
   have H := H1
   clear H1
   replace H := Option.bind_eq_some_iff.mp H
   obtain ⟨t599, A140, H⟩ := H
   replace H : (if t599 = true then (if a0 = 930 then ((name_between.f a0 1040 1071).bind fun t600 => (if t600 = true then (some (wrap32 (a0 + 32))) else (some a0))) else (some (wrap32 (a0 + 32)))) else ((name_between.f a0 1040 1071).bind fun t601 => (if t601 = true then (some (wrap32 (a0 + 32))) else (some a0)))) = some r := H
   have A14 := Aside0.mk A140
   clear A140
   by_cases c15 : t599 = true
   ·subst c15
    have H1 : (if a0 = 930 then ((name_between.f a0 1040 1071).bind fun t600 => (if t600 = true then (some (wrap32 (a0 + 32))) else (some a0))) else (some (wrap32 (a0 + 32)))) = some r := by rw [if_pos rfl] at H; exact H
    clear H
    have H := H1
    clear H1
    by_cases c16 : a0 = 930
    ·rw [if_pos c16] at H
     have c16b0 : (a0 == 930) = true := beq_iff_eq.mpr c16
     have c16b1 : (a0 != 930) = false := bne_eq_false_iff_eq.mpr c16
     clear c16
     replace H := Option.bind_eq_some_iff.mp H
     obtain ⟨t600, A170, H⟩ := H
     replace H : (if t600 = true then (some (wrap32 (a0 + 32))) else (some a0)) = some r := H
     have A17 := Aside0.mk A170
     clear A170
     by_cases c18 : t600 = true
     ·subst c18
      have H1 : (some (wrap32 (a0 + 32))) = some r := by rw [if_pos rfl] at H; exact H
      clear H
      have H := H1
      clear H1
      obtain rfl := Option.some.inj H
      go_enter Tryd.func145, Tryd.ntmps145
      go_wp2_with (first | ((with_reducible refine gate_callee (f := 144) rfl ?_); refine goesA (some 4) Tryd.func144 #[.int .i32 a0, .int .i32 65, .int .i32 90] ?_; (with_reducible refine (name_between.calls a0 65 90 false _ A2.out).mono ?_); rintro e w' ⟨rfl, ⟨nd, rfl⟩⟩; refine ⟨_, rfl, ?_⟩) | (go_at_call 144; (with_reducible refine (name_between.calls a0 192 222 false _ A4.out).mono ?_); rintro e w' ⟨rfl, ⟨nd, rfl⟩⟩) | (go_at_call 144; (with_reducible refine (name_between.calls a0 913 937 true _ A14.out).mono ?_); rintro e w' ⟨rfl, ⟨nd, rfl⟩⟩) | (go_at_call 144; (with_reducible refine (name_between.calls a0 1040 1071 true _ A17.out).mono ?_); rintro e w' ⟨rfl, ⟨nd, rfl⟩⟩))
      go_ret
      exact ⟨by first | rfl | (simp; done) | (simp [*]; done) | (simp [wrap64]; done), by repeat (first | exact Drawn0.refl _ | apply Drawn0.step)⟩
     ·replace c18 := Bool.eq_false_iff.mpr c18
      subst c18
      have H1 : (some a0) = some r := by rw [if_neg (show ¬ (false = true) by decide)] at H; exact H
      clear H
      have H := H1
      clear H1
      obtain rfl := Option.some.inj H
      go_enter Tryd.func145, Tryd.ntmps145
      go_wp2_with (first | ((with_reducible refine gate_callee (f := 144) rfl ?_); refine goesA (some 4) Tryd.func144 #[.int .i32 a0, .int .i32 65, .int .i32 90] ?_; (with_reducible refine (name_between.calls a0 65 90 false _ A2.out).mono ?_); rintro e w' ⟨rfl, ⟨nd, rfl⟩⟩; refine ⟨_, rfl, ?_⟩) | (go_at_call 144; (with_reducible refine (name_between.calls a0 192 222 false _ A4.out).mono ?_); rintro e w' ⟨rfl, ⟨nd, rfl⟩⟩) | (go_at_call 144; (with_reducible refine (name_between.calls a0 913 937 true _ A14.out).mono ?_); rintro e w' ⟨rfl, ⟨nd, rfl⟩⟩) | (go_at_call 144; (with_reducible refine (name_between.calls a0 1040 1071 false _ A17.out).mono ?_); rintro e w' ⟨rfl, ⟨nd, rfl⟩⟩))
      go_ret
      exact ⟨by first | rfl | (simp; done) | (simp [*]; done) | (simp [wrap64]; done), by repeat (first | exact Drawn0.refl _ | apply Drawn0.step)⟩
    ·rw [if_neg c16] at H
     have c16b0 : (a0 == 930) = false := beq_eq_false_iff_ne.mpr c16
     have c16b1 : (a0 != 930) = true := bne_iff_ne.mpr c16
     obtain rfl := Option.some.inj H
     go_enter Tryd.func145, Tryd.ntmps145
     go_wp2_with (first | ((with_reducible refine gate_callee (f := 144) rfl ?_); refine goesA (some 4) Tryd.func144 #[.int .i32 a0, .int .i32 65, .int .i32 90] ?_; (with_reducible refine (name_between.calls a0 65 90 false _ A2.out).mono ?_); rintro e w' ⟨rfl, ⟨nd, rfl⟩⟩; refine ⟨_, rfl, ?_⟩) | (go_at_call 144; (with_reducible refine (name_between.calls a0 192 222 false _ A4.out).mono ?_); rintro e w' ⟨rfl, ⟨nd, rfl⟩⟩) | (go_at_call 144; (with_reducible refine (name_between.calls a0 913 937 true _ A14.out).mono ?_); rintro e w' ⟨rfl, ⟨nd, rfl⟩⟩))
     go_ret
     exact ⟨by first | rfl | (simp; done) | (simp [*]; done) | (simp [wrap64]; done), by repeat (first | exact Drawn0.refl _ | apply Drawn0.step)⟩
   ·replace c15 := Bool.eq_false_iff.mpr c15
    subst c15
    have H1 : ((name_between.f a0 1040 1071).bind fun t601 => (if t601 = true then (some (wrap32 (a0 + 32))) else (some a0))) = some r := by rw [if_neg (show ¬ (false = true) by decide)] at H; exact H
    clear H
    have H := H1
    clear H1
    replace H := Option.bind_eq_some_iff.mp H
    obtain ⟨t601, A190, H⟩ := H
    replace H : (if t601 = true then (some (wrap32 (a0 + 32))) else (some a0)) = some r := H
    have A19 := Aside0.mk A190
    clear A190
    by_cases c20 : t601 = true
    ·subst c20
     have H1 : (some (wrap32 (a0 + 32))) = some r := by rw [if_pos rfl] at H; exact H
     clear H
     have H := H1
     clear H1
     obtain rfl := Option.some.inj H
     go_enter Tryd.func145, Tryd.ntmps145
     go_wp2_with (first | ((with_reducible refine gate_callee (f := 144) rfl ?_); refine goesA (some 4) Tryd.func144 #[.int .i32 a0, .int .i32 65, .int .i32 90] ?_; (with_reducible refine (name_between.calls a0 65 90 false _ A2.out).mono ?_); rintro e w' ⟨rfl, ⟨nd, rfl⟩⟩; refine ⟨_, rfl, ?_⟩) | (go_at_call 144; (with_reducible refine (name_between.calls a0 192 222 false _ A4.out).mono ?_); rintro e w' ⟨rfl, ⟨nd, rfl⟩⟩) | (go_at_call 144; (with_reducible refine (name_between.calls a0 913 937 false _ A14.out).mono ?_); rintro e w' ⟨rfl, ⟨nd, rfl⟩⟩) | (go_at_call 144; (with_reducible refine (name_between.calls a0 1040 1071 true _ A19.out).mono ?_); rintro e w' ⟨rfl, ⟨nd, rfl⟩⟩))
     go_ret
     exact ⟨by first | rfl | (simp; done) | (simp [*]; done) | (simp [wrap64]; done), by repeat (first | exact Drawn0.refl _ | apply Drawn0.step)⟩
    ·replace c20 := Bool.eq_false_iff.mpr c20
     subst c20
     have H1 : (some a0) = some r := by rw [if_neg (show ¬ (false = true) by decide)] at H; exact H
     clear H
     have H := H1
     clear H1
     obtain rfl := Option.some.inj H
     go_enter Tryd.func145, Tryd.ntmps145
     go_wp2_with (first | ((with_reducible refine gate_callee (f := 144) rfl ?_); refine goesA (some 4) Tryd.func144 #[.int .i32 a0, .int .i32 65, .int .i32 90] ?_; (with_reducible refine (name_between.calls a0 65 90 false _ A2.out).mono ?_); rintro e w' ⟨rfl, ⟨nd, rfl⟩⟩; refine ⟨_, rfl, ?_⟩) | (go_at_call 144; (with_reducible refine (name_between.calls a0 192 222 false _ A4.out).mono ?_); rintro e w' ⟨rfl, ⟨nd, rfl⟩⟩) | (go_at_call 144; (with_reducible refine (name_between.calls a0 913 937 false _ A14.out).mono ?_); rintro e w' ⟨rfl, ⟨nd, rfl⟩⟩) | (go_at_call 144; (with_reducible refine (name_between.calls a0 1040 1071 false _ A19.out).mono ?_); rintro e w' ⟨rfl, ⟨nd, rfl⟩⟩))
     go_ret
     exact ⟨by first | rfl | (simp; done) | (simp [*]; done) | (simp [wrap64]; done), by repeat (first | exact Drawn0.refl _ | apply Drawn0.step)⟩

/-! ### name_Fold: function 119, by hand -/
theorem name_Fold.info : (Tryd.prog.info? 21).map (fun i => (i.zero, i.size, i.bytes)) = some (some (.int .i32 0), 1, 4) := by kernel_rfl
def name_Fold.go (s : ByteArray) : Nat → Nat → List Int → Option (List Int)
 | 0, _, _ => none
 | f + 1, pos, acc => if pos < s.size then (name_Small.f ((Utf8.decode s pos).1 : Int)).bind fun c => name_Fold.go s f (pos + (Utf8.decode s pos).2) (acc ++ [c]) else some acc
def name_Fold.f (a0 : ByteArray) : Option ByteArray := if a0.size ≤ 1099511627776 then (if Lib.validD a0.data.toList = true then (name_Fold.go a0 (a0.size + 1) 0 []).bind fun l => some (runesBytes l) else some a0) else none
set_option maxHeartbeats 4000000 in
set_option maxRecDepth 100000 in
theorem name_Fold.calls (a0 : ByteArray) (r : ByteArray) (w : World) (hT : Tabs w) (h : name_Fold.f a0 = some r) :
  Calls Tryd.prog 119 #[.string a0] w fun e w' => e = .returned (.string r) ∧ Below w.heap.size w w' := by
 unfold name_Fold.f at h
 split at h
 ·rename_i hs
  have cV := Tryd.utf8_ValidString a0 w (by omega) hT.u8
  by_cases hv : Lib.validD a0.data.toList = true
  ·rw [if_pos hv] at h
   obtain ⟨l, hl, h⟩ := Option.bind_eq_some_iff.1 h
   obtain rfl := Option.some.inj h
   have H := Lib.hid hl
   rw [hv] at cV
   clear h hv hl
   go_enter Tryd.func119, Tryd.ntmps119
   go_wp2_with (go_at_call 53; refine cV.mono ?_; rintro e w1 ⟨rfl, hb1⟩)
   go_loopw [3] (fun v3 wr => ∃ (pos fuel : Nat) (acc : List Int), wr.heap[w1.heap.size]? = some (.stringIter a0 pos) ∧ Kd.R (Kd.int .i32) 21 wr w.heap.size (fun k => k ≠ w1.heap.size) v3 acc ∧ Below w.heap.size w wr ∧ Hid (name_Fold.go a0 fuel pos acc = some l) ∧ acc.length ≤ pos) (fun _ wr => a0.size - wr.iterPos w1.heap.size)
   case atStart => exact ⟨0, _, [], World.iter_heap w1 a0 0, Kd.R_nil _ _ _ _ _, hb1.alloc hb1.size _, H, by simp⟩
   case round =>
    obtain ⟨pos, fuel, acc, hit, hR, hbw, HG, hal⟩ := hrel
    clear H
    have hsz : w1.heap.size < wr.heap.size := (Array.getElem?_eq_some_iff.1 hit).1
    have hsw : w.heap.size ≤ w1.heap.size := hb1.size
    cases fuel with
    | zero => exact absurd HG.out (by simp [name_Fold.go])
    | succ f =>
     have hgo := HG.out
     clear HG
     unfold name_Fold.go at hgo
     by_cases hp : pos < a0.size
     ·rw [if_pos hp] at hgo
      have hnx : ∀ ty, (Instr.next (.pointer (some ⟨w1.heap.size, 0, none⟩)) true ty).run Tryd.prog wr = _ := fun ty => Lib.run_next_any_at wr w1.heap.size a0 pos ty hit hp
      have Hwd := Lib.hid (Lib.width_pos a0 pos)
      have Hd1 := Lib.hid (decode_le a0 pos)
      have hit2 := Lib.iterAt_heap wr w1.heap.size a0 pos (pos + (Utf8.decode a0 pos).2) hit
      have hbw2 := Lib.below_iterAt hbw (k := w1.heap.size) hsw a0 (pos + (Utf8.decode a0 pos).2)
      have hR2 : Kd.R (Kd.int .i32) 21 (wr.iterAt w1.heap.size a0 (pos + (Utf8.decode a0 pos).2)) w.heap.size (fun k => k ≠ w1.heap.size) u3 acc := Kd.R_move hR (fun k hk => Lib.iterAt_other wr w1.heap.size k a0 _ hk)
      obtain ⟨c, hc, hgo⟩ := Option.bind_eq_some_iff.1 hgo
      have cS := fun W => name_Small.calls ((Utf8.decode a0 pos).1 : Int) c W hc
      generalize hq : (((Utf8.decode a0 pos).1 : Nat) : Int) = q at cS hnx
      have HE := Lib.hid hgo
      have hz2 : w1.heap.size < (wr.iterAt w1.heap.size a0 (pos + (Utf8.decode a0 pos).2)).heap.size := by rw [Lib.iterAt_size]; exact hsz
      have Hit := Lib.hid hit
      have HL := Lib.hid (show (acc.length + 1) * 4 ≤ 140737488355328 by omega)
      have HA := Lib.hid hal
      clear hgo hc hq hit hbw hR hal
      go_wp2_with (first | (go_at_call 145; refine (cS _).mono ?_; rintro e w2 ⟨rfl, ⟨nd, rfl⟩⟩) | ((with_reducible refine gate_builtin (b := .append) (xs := #[.tmp 15, .tmp 18]) rfl ?_); at_builtin; refine Kd.R_append (Kd.int .i32) (w0 := w) w.heap.size rfl (.tmp 15) (.tmp 18) 160 21 (.int .i32 0) 4 rfl Tryd.underlying160 name_Fold.info rfl (by decide) (by omega) u3 acc c [.int .i32 c] (fun k => k ≠ w1.heap.size) (fun _ => False) rfl (by first | (go_simp; done) | (go_simp; rfl)) rfl (fun _ hk => hk.elim) ?aF ?aO ?aB ?aS HL.out ?_; (case aF => (intro k hk he; rw [he] at hk; exact absurd (Nat.lt_of_lt_of_le hz2 hk) (Nat.lt_irrefl _))); (case aB => (repeat (first | exact hbw2 | apply pw_below_drewN))); (case aO => ((with_reducible repeat (first | apply Kd.R_alloc | apply Kd.R_drewN | apply Kd.R_drew)); exact hR2)); (case aS => exact hbw2.size); intro v4 w4 ho hb hg hat; have hit3 := blk_grown (show ((wr.iterAt w1.heap.size a0 (pos + (Utf8.decode a0 pos).2)).drewN nd).heap[w1.heap.size]? = _ from hit2) hg (fun e => hR2.1 _ e.symm rfl)))
      go_roundw
      case rel =>
       refine ⟨_, f, acc ++ [c], hit3, ho, hb, HE, ?_⟩
       have := HA.out
       have := Hwd.out
       rw [List.length_append]
       show acc.length + 1 ≤ _
       omega
      case measure =>
       have hwd := Hwd.out
       have hd1 := Hd1.out
       simp only [World.iterPos, hit3, Hit.out]
       omega
     ·rw [if_neg hp] at hgo
      obtain rfl := Option.some.inj hgo
      clear hal
      have hnx : ∀ ty, (Instr.next (.pointer (some ⟨w1.heap.size, 0, none⟩)) true ty).run Tryd.prog wr = _ := fun ty => Lib.run_next_end_at wr w1.heap.size a0 pos ty hit hp
      have hcv := own_runes (P := Tryd.prog) Tryd.underlying160 Tryd.underlying21 Tryd.underlying9 (Kd.own_of_R hR)
      go_wp2
      go_ret
      exact ⟨rfl, hbw⟩
  ·rw [if_neg hv] at h
   obtain rfl := Option.some.inj h
   rw [Bool.eq_false_iff.2 hv] at cV
   clear hv
   go_enter Tryd.func119, Tryd.ntmps119
   go_wp2_with (go_at_call 53; refine cV.mono ?_; rintro e w1 ⟨rfl, hb1⟩)
   go_ret
   exact ⟨rfl, hb1⟩
 ·cases h

/-! ### name_Same: function 89 -/
def name_Same.f (a0 : ByteArray) (a1 : ByteArray) : Option (Bool) := (name_Fold.f a0).bind fun t602 => ((name_Fold.f a1).bind fun t603 => (some (t602.toList == t603.toList)))
set_option maxHeartbeats 8000000 in
set_option maxRecDepth 100000 in
theorem name_Same.calls (a0 : ByteArray) (a1 : ByteArray) (r : Bool) (w : World) (hT : Tabs w) (h : name_Same.f a0 a1 = some r) :
  Calls Tryd.prog 89 #[.string a0, .string a1] w fun e w' => e = .returned (.bool r) ∧ Below w.heap.size w w' := by
 have HB := Aside0.mk (Below.refl w.heap.size w)
 have H : ((name_Fold.f a0).bind fun t602 => ((name_Fold.f a1).bind fun t603 => (some (t602.toList == t603.toList)))) = some r := h
 clear h
 have HT := Aside0.mk hT
 clear hT
 replace H := Option.bind_eq_some_iff.mp H
 obtain ⟨t602, A30, H⟩ := H
 replace H : ((name_Fold.f a1).bind fun t603 => (some (t602.toList == t603.toList))) = some r := H
 have A3 := Aside0.mk A30
 clear A30
 replace H := Option.bind_eq_some_iff.mp H
 obtain ⟨t603, A40, H⟩ := H
 replace H : (some (t602.toList == t603.toList)) = some r := H
 have A4 := Aside0.mk A40
 clear A40
 obtain rfl := Option.some.inj H
 go_enter Tryd.func89, Tryd.ntmps89
 go_wp2_with (first | ((with_reducible refine gate_callee (f := 119) rfl ?_); refine goesA (some 6) Tryd.func119 #[.string a0] ?_; (with_reducible refine (name_Fold.calls a0 t602 _ ?side1 A3.out).mono ?_); (case side1 => exact Tabs.below HT.out bwA); rintro e w5 ⟨rfl, hb⟩; refine ⟨_, rfl, ?_⟩; have n0_ := Aside0.mk (below_step bwA hb); clear HB; have HB := n0_; clear n0_; (try clear hb); (try clear hb2); (try clear hk); (try clear hi)) | ((with_reducible refine gate_callee (f := 119) rfl ?_); refine goesA (some 8) Tryd.func119 #[.string a1] ?_; (with_reducible refine (name_Fold.calls a1 t603 _ ?side1 A4.out).mono ?_); (case side1 => exact Tabs.below HT.out bwA); rintro e w6 ⟨rfl, hb⟩; refine ⟨_, rfl, ?_⟩; have n0_ := Aside0.mk (below_step bwA hb); clear HB; have HB := n0_; clear n0_; (try clear hb); (try clear hb2); (try clear hk); (try clear hi)))
 go_ret
 exact ⟨by first | rfl | (simp [errW_none, errW_some] <;> rfl) | (simp [*, errW_none, errW_some] <;> rfl), by repeat (first | (with_reducible first | exact HB.out | apply below_alloc | apply pw_below_drewN | apply below_drew1) | exact HB.out)⟩

/-! ### lex_Word: function 51 -/
def lex_Word.f (a0_0 : Int) (a0_1 : Int) (a0_2 : ByteArray) (a0_3 : Int) (a0_4 : Int) (a0_5 : ByteArray) (a1 : ByteArray) : Option (Bool) := if a0_0 = 1 then ((name_Same.f a0_2 a1).bind fun t605 => (some t605)) else (some false)
set_option maxHeartbeats 8000000 in
set_option maxRecDepth 100000 in
theorem lex_Word.calls (a0_0 : Int) (a0_1 : Int) (a0_2 : ByteArray) (a0_3 : Int) (a0_4 : Int) (a0_5 : ByteArray) (a1 : ByteArray) (r : Bool) (w : World) (hT : Tabs w) (h : lex_Word.f a0_0 a0_1 a0_2 a0_3 a0_4 a0_5 a1 = some r) :
  Calls Tryd.prog 51 #[.agg #[.int .i64 a0_0, .int .i64 a0_1, .string a0_2, .int .i64 a0_3, .int .i64 a0_4, .string a0_5], .string a1] w fun e w' => e = .returned (.bool r) ∧ Below w.heap.size w w' := by
 have hu68 := Tryd.underlying68
 have HB := Aside0.mk (Below.refl w.heap.size w)
 have H : (if a0_0 = 1 then ((name_Same.f a0_2 a1).bind fun t605 => (some t605)) else (some false)) = some r := h
 clear h
 have HT := Aside0.mk hT
 clear hT
 by_cases c3 : a0_0 = 1
 ·rw [if_pos c3] at H
  have c3b0 : (a0_0 == 1) = true := beq_iff_eq.mpr c3
  have c3b1 : (a0_0 != 1) = false := bne_eq_false_iff_eq.mpr c3
  clear c3
  replace H := Option.bind_eq_some_iff.mp H
  obtain ⟨t605, A40, H⟩ := H
  replace H : (some t605) = some r := H
  have A4 := Aside0.mk A40
  clear A40
  obtain rfl := Option.some.inj H
  go_enter Tryd.func51, Tryd.ntmps51
  go_wp2_with (first | ((with_reducible refine gate_dst (N := 2) rfl ?_); refine box_event ?hg (N := 2) ?hd (cs := #[.int .i64 a0_0, .int .i64 a0_1, .string a0_2, .int .i64 a0_3, .int .i64 a0_4, .string a0_5]) (t := 68) ?hr ?_; (case hd => rfl); (case hg => rfl); (case hr => first | (go_simp; done) | (go_simp; rfl)); intro gb604 hg w5 hbox hb; have n0_ := Aside0.mk (below_step bwA hb); have n1_ := Aside0.mk (hbox); have n2_ := Aside0.mk ((by rw [hg]; exact (below_size bwA) : w.heap.size ≤ gb604)); have n3_ := Aside0.mk ((by rw [hg]; exact (below_size bwA) : w.heap.size ≤ gb604)); clear HB; have HB := n0_; have BK604 := n1_; have GW604 := n2_; have GE604 := n3_; clear n0_ n1_ n2_ n3_; clear hb hbox hg; have hcz6_0 : w5.cell? ⟨gb604, 0, none⟩ = some (.int .i64 a0_0) := (blk_cell BK604.out 0).trans rfl; have hcz6_1 : w5.cell? ⟨gb604, 1, none⟩ = some (.int .i64 a0_1) := (blk_cell BK604.out 1).trans rfl; have hcz6_2 : w5.cell? ⟨gb604, 2, none⟩ = some (.string a0_2) := (blk_cell BK604.out 2).trans rfl; have hcz6_3 : w5.cell? ⟨gb604, 3, none⟩ = some (.int .i64 a0_3) := (blk_cell BK604.out 3).trans rfl; have hcz6_4 : w5.cell? ⟨gb604, 4, none⟩ = some (.int .i64 a0_4) := (blk_cell BK604.out 4).trans rfl; have hcz6_5 : w5.cell? ⟨gb604, 5, none⟩ = some (.string a0_5) := (blk_cell BK604.out 5).trans rfl; have hfz6_0 := blk_frozen BK604.out 0; have hfz6_1 := blk_frozen BK604.out 1; have hfz6_2 := blk_frozen BK604.out 2; have hfz6_3 := blk_frozen BK604.out 3; have hfz6_4 := blk_frozen BK604.out 4; have hfz6_5 := blk_frozen BK604.out 5) | (go_at_call 89; (with_reducible refine (name_Same.calls a0_2 a1 t605 _ ?side1 A4.out).mono ?_); (case side1 => exact Tabs.below HT.out bwA); rintro e w7 ⟨rfl, hb⟩; have n0_ := Aside0.mk (blk_below (g := gb604) (o := .cells #[.int .i64 a0_0, .int .i64 a0_1, .string a0_2, .int .i64 a0_3, .int .i64 a0_4, .string a0_5] 68 (0, 0)) blkA hb); have n1_ := Aside0.mk (below_step bwA hb); clear BK604; clear HB; have BK604 := n0_; have HB := n1_; clear n0_ n1_; (try clear hb); (try clear hb2); (try clear hk); (try clear hi)))
  go_ret
  exact ⟨by first | rfl | (simp [errW_none, errW_some] <;> rfl) | (simp [*, errW_none, errW_some] <;> rfl), by repeat (first | (with_reducible first | exact HB.out | apply below_alloc | apply pw_below_drewN | apply below_drew1 | refine below_set ?_ GE604.out) | exact HB.out)⟩
 ·rw [if_neg c3] at H
  have c3b0 : (a0_0 == 1) = false := beq_eq_false_iff_ne.mpr c3
  have c3b1 : (a0_0 != 1) = true := bne_iff_ne.mpr c3
  obtain rfl := Option.some.inj H
  go_enter Tryd.func51, Tryd.ntmps51
  go_wp2_with (first | ((with_reducible refine gate_dst (N := 2) rfl ?_); refine box_event ?hg (N := 2) ?hd (cs := #[.int .i64 a0_0, .int .i64 a0_1, .string a0_2, .int .i64 a0_3, .int .i64 a0_4, .string a0_5]) (t := 68) ?hr ?_; (case hd => rfl); (case hg => rfl); (case hr => first | (go_simp; done) | (go_simp; rfl)); intro gb604 hg w8 hbox hb; have n0_ := Aside0.mk (below_step bwA hb); have n1_ := Aside0.mk (hbox); have n2_ := Aside0.mk ((by rw [hg]; exact (below_size bwA) : w.heap.size ≤ gb604)); have n3_ := Aside0.mk ((by rw [hg]; exact (below_size bwA) : w.heap.size ≤ gb604)); clear HB; have HB := n0_; have BK604 := n1_; have GW604 := n2_; have GE604 := n3_; clear n0_ n1_ n2_ n3_; clear hb hbox hg; have hcz9_0 : w8.cell? ⟨gb604, 0, none⟩ = some (.int .i64 a0_0) := (blk_cell BK604.out 0).trans rfl; have hcz9_1 : w8.cell? ⟨gb604, 1, none⟩ = some (.int .i64 a0_1) := (blk_cell BK604.out 1).trans rfl; have hcz9_2 : w8.cell? ⟨gb604, 2, none⟩ = some (.string a0_2) := (blk_cell BK604.out 2).trans rfl; have hcz9_3 : w8.cell? ⟨gb604, 3, none⟩ = some (.int .i64 a0_3) := (blk_cell BK604.out 3).trans rfl; have hcz9_4 : w8.cell? ⟨gb604, 4, none⟩ = some (.int .i64 a0_4) := (blk_cell BK604.out 4).trans rfl; have hcz9_5 : w8.cell? ⟨gb604, 5, none⟩ = some (.string a0_5) := (blk_cell BK604.out 5).trans rfl; have hfz9_0 := blk_frozen BK604.out 0; have hfz9_1 := blk_frozen BK604.out 1; have hfz9_2 := blk_frozen BK604.out 2; have hfz9_3 := blk_frozen BK604.out 3; have hfz9_4 := blk_frozen BK604.out 4; have hfz9_5 := blk_frozen BK604.out 5))
  go_ret
  exact ⟨by first | rfl | (simp [errW_none, errW_some] <;> rfl) | (simp [*, errW_none, errW_some] <;> rfl), by repeat (first | (with_reducible first | exact HB.out | apply below_alloc | apply pw_below_drewN | apply below_drew1 | refine below_set ?_ GE604.out) | exact HB.out)⟩

/-! ### lex_Mark: function 52 -/
def lex_Mark.f (a0_0 : Int) (a0_1 : Int) (a0_2 : ByteArray) (a0_3 : Int) (a0_4 : Int) (a0_5 : ByteArray) (a1 : ByteArray) : Option (Bool) := if a0_0 = 3 then (some (a0_2.toList == a1.toList)) else (some false)
set_option maxHeartbeats 8000000 in
set_option maxRecDepth 100000 in
theorem lex_Mark.calls (a0_0 : Int) (a0_1 : Int) (a0_2 : ByteArray) (a0_3 : Int) (a0_4 : Int) (a0_5 : ByteArray) (a1 : ByteArray) (r : Bool) (w : World) (h : lex_Mark.f a0_0 a0_1 a0_2 a0_3 a0_4 a0_5 a1 = some r) :
  Calls Tryd.prog 52 #[.agg #[.int .i64 a0_0, .int .i64 a0_1, .string a0_2, .int .i64 a0_3, .int .i64 a0_4, .string a0_5], .string a1] w fun e w' => e = .returned (.bool r) ∧ Below w.heap.size w w' := by
 have hu68 := Tryd.underlying68
 have HB := Aside0.mk (Below.refl w.heap.size w)
 have H : (if a0_0 = 3 then (some (a0_2.toList == a1.toList)) else (some false)) = some r := h
 clear h
 by_cases c3 : a0_0 = 3
 ·rw [if_pos c3] at H
  have c3b0 : (a0_0 == 3) = true := beq_iff_eq.mpr c3
  have c3b1 : (a0_0 != 3) = false := bne_eq_false_iff_eq.mpr c3
  clear c3
  obtain rfl := Option.some.inj H
  go_enter Tryd.func52, Tryd.ntmps52
  go_wp2_with (first | ((with_reducible refine gate_dst (N := 2) rfl ?_); refine box_event ?hg (N := 2) ?hd (cs := #[.int .i64 a0_0, .int .i64 a0_1, .string a0_2, .int .i64 a0_3, .int .i64 a0_4, .string a0_5]) (t := 68) ?hr ?_; (case hd => rfl); (case hg => rfl); (case hr => first | (go_simp; done) | (go_simp; rfl)); intro gb606 hg w4 hbox hb; have n0_ := Aside0.mk (below_step bwA hb); have n1_ := Aside0.mk (hbox); have n2_ := Aside0.mk ((by rw [hg]; exact (below_size bwA) : w.heap.size ≤ gb606)); have n3_ := Aside0.mk ((by rw [hg]; exact (below_size bwA) : w.heap.size ≤ gb606)); clear HB; have HB := n0_; have BK606 := n1_; have GW606 := n2_; have GE606 := n3_; clear n0_ n1_ n2_ n3_; clear hb hbox hg; have hcz5_0 : w4.cell? ⟨gb606, 0, none⟩ = some (.int .i64 a0_0) := (blk_cell BK606.out 0).trans rfl; have hcz5_1 : w4.cell? ⟨gb606, 1, none⟩ = some (.int .i64 a0_1) := (blk_cell BK606.out 1).trans rfl; have hcz5_2 : w4.cell? ⟨gb606, 2, none⟩ = some (.string a0_2) := (blk_cell BK606.out 2).trans rfl; have hcz5_3 : w4.cell? ⟨gb606, 3, none⟩ = some (.int .i64 a0_3) := (blk_cell BK606.out 3).trans rfl; have hcz5_4 : w4.cell? ⟨gb606, 4, none⟩ = some (.int .i64 a0_4) := (blk_cell BK606.out 4).trans rfl; have hcz5_5 : w4.cell? ⟨gb606, 5, none⟩ = some (.string a0_5) := (blk_cell BK606.out 5).trans rfl; have hfz5_0 := blk_frozen BK606.out 0; have hfz5_1 := blk_frozen BK606.out 1; have hfz5_2 := blk_frozen BK606.out 2; have hfz5_3 := blk_frozen BK606.out 3; have hfz5_4 := blk_frozen BK606.out 4; have hfz5_5 := blk_frozen BK606.out 5))
  go_ret
  exact ⟨by first | rfl | (simp [errW_none, errW_some] <;> rfl) | (simp [*, errW_none, errW_some] <;> rfl), by repeat (first | (with_reducible first | exact HB.out | apply below_alloc | apply pw_below_drewN | apply below_drew1 | refine below_set ?_ GE606.out) | exact HB.out)⟩
 ·rw [if_neg c3] at H
  have c3b0 : (a0_0 == 3) = false := beq_eq_false_iff_ne.mpr c3
  have c3b1 : (a0_0 != 3) = true := bne_iff_ne.mpr c3
  obtain rfl := Option.some.inj H
  go_enter Tryd.func52, Tryd.ntmps52
  go_wp2_with (first | ((with_reducible refine gate_dst (N := 2) rfl ?_); refine box_event ?hg (N := 2) ?hd (cs := #[.int .i64 a0_0, .int .i64 a0_1, .string a0_2, .int .i64 a0_3, .int .i64 a0_4, .string a0_5]) (t := 68) ?hr ?_; (case hd => rfl); (case hg => rfl); (case hr => first | (go_simp; done) | (go_simp; rfl)); intro gb606 hg w6 hbox hb; have n0_ := Aside0.mk (below_step bwA hb); have n1_ := Aside0.mk (hbox); have n2_ := Aside0.mk ((by rw [hg]; exact (below_size bwA) : w.heap.size ≤ gb606)); have n3_ := Aside0.mk ((by rw [hg]; exact (below_size bwA) : w.heap.size ≤ gb606)); clear HB; have HB := n0_; have BK606 := n1_; have GW606 := n2_; have GE606 := n3_; clear n0_ n1_ n2_ n3_; clear hb hbox hg; have hcz7_0 : w6.cell? ⟨gb606, 0, none⟩ = some (.int .i64 a0_0) := (blk_cell BK606.out 0).trans rfl; have hcz7_1 : w6.cell? ⟨gb606, 1, none⟩ = some (.int .i64 a0_1) := (blk_cell BK606.out 1).trans rfl; have hcz7_2 : w6.cell? ⟨gb606, 2, none⟩ = some (.string a0_2) := (blk_cell BK606.out 2).trans rfl; have hcz7_3 : w6.cell? ⟨gb606, 3, none⟩ = some (.int .i64 a0_3) := (blk_cell BK606.out 3).trans rfl; have hcz7_4 : w6.cell? ⟨gb606, 4, none⟩ = some (.int .i64 a0_4) := (blk_cell BK606.out 4).trans rfl; have hcz7_5 : w6.cell? ⟨gb606, 5, none⟩ = some (.string a0_5) := (blk_cell BK606.out 5).trans rfl; have hfz7_0 := blk_frozen BK606.out 0; have hfz7_1 := blk_frozen BK606.out 1; have hfz7_2 := blk_frozen BK606.out 2; have hfz7_3 := blk_frozen BK606.out 3; have hfz7_4 := blk_frozen BK606.out 4; have hfz7_5 := blk_frozen BK606.out 5))
  go_ret
  exact ⟨by first | rfl | (simp [errW_none, errW_some] <;> rfl) | (simp [*, errW_none, errW_some] <;> rfl), by repeat (first | (with_reducible first | exact HB.out | apply below_alloc | apply pw_below_drewN | apply below_drew1 | refine below_set ?_ GE606.out) | exact HB.out)⟩

/-! ### caduceuslaw07_awake: function 24 -/
def caduceuslaw07_awake.f (k : Nat)  : Option (Bool) := (lex_Lex.f k (⟨#[97, 32, 62, 61, 32, 45, 53, 32, 97, 110, 100, 32, 98, 32, 105, 110, 32, 123, 34, 120, 34, 125]⟩ : ByteArray)).bind fun bt607 => (if bt607.2.2 = 0 then (if bt607.2.1 = 22 then (if (bt607.1.length : Int) = 9 then (if 1 < (bt607.1.length : Int) then (if ((rd_T68 bt607.1 1).f2).toList = ([62, 61] : List UInt8) then (if 2 < (bt607.1.length : Int) then (if ((rd_T68 bt607.1 2).f3.f1) = (-5) then (if 4 < (bt607.1.length : Int) then (if ((rd_T68 bt607.1 4).f2).toList = ([98] : List UInt8) then (if ((rd_T68 bt607.1 4).f1) = 12 then (if 7 < (bt607.1.length : Int) then (if ((rd_T68 bt607.1 7).f3.f2).toList = ([120] : List UInt8) then (if 3 < (bt607.1.length : Int) then ((lex_Word.f ((rd_T68 bt607.1 3).f0) ((rd_T68 bt607.1 3).f1) ((rd_T68 bt607.1 3).f2) ((rd_T68 bt607.1 3).f3.f0) ((rd_T68 bt607.1 3).f3.f1) ((rd_T68 bt607.1 3).f3.f2) (⟨#[65, 78, 68]⟩ : ByteArray)).bind fun t618 => (if t618 = true then (if 8 < (bt607.1.length : Int) then ((lex_Mark.f ((rd_T68 bt607.1 8).f0) ((rd_T68 bt607.1 8).f1) ((rd_T68 bt607.1 8).f2) ((rd_T68 bt607.1 8).f3.f0) ((rd_T68 bt607.1 8).f3.f1) ((rd_T68 bt607.1 8).f3.f2) (⟨#[125]⟩ : ByteArray)).bind fun t620 => (some t620)) else (none)) else (none))) else (none)) else (none)) else (none)) else (none)) else (none)) else (none)) else (none)) else (none)) else (none)) else (none)) else (none)) else (none)) else (none))
theorem caduceuslaw07_awake.mono : ∀ k, LeO (caduceuslaw07_awake.f k ) (caduceuslaw07_awake.f (k + 1) ) := by
 intro  k
 unfold caduceuslaw07_awake.f
 repeat' first
   | (with_reducible exact lex_Lex.mono _ _)
   | (with_reducible exact LeO.refl _)
   | (with_reducible exact LeO.none _)
   | (with_reducible refine LeO.ite ?_ ?_)
   | (with_reducible refine LeO.bind ?_ (fun _ => ?_))
   | exact lex_Lex.mono _ _
   | exact LeO.none _
   | refine LeO.ite ?_ ?_
   | refine LeO.bind ?_ (fun _ => ?_)
set_option maxHeartbeats 8000000 in
set_option maxRecDepth 100000 in
theorem caduceuslaw07_awake.calls (k : Nat)  (r : Bool) (w : World) (hT : Tabs w) (h : caduceuslaw07_awake.f k  = some r) :
  Calls Tryd.prog 24 #[] w fun e w' => e = .returned (.bool r) ∧ Below w.heap.size w w' := by
 have hu68 := Tryd.underlying68
 have HB := Aside0.mk (Below.refl w.heap.size w)
 have H : ((lex_Lex.f k (⟨#[97, 32, 62, 61, 32, 45, 53, 32, 97, 110, 100, 32, 98, 32, 105, 110, 32, 123, 34, 120, 34, 125]⟩ : ByteArray)).bind fun bt607 => (if bt607.2.2 = 0 then (if bt607.2.1 = 22 then (if (bt607.1.length : Int) = 9 then (if 1 < (bt607.1.length : Int) then (if ((rd_T68 bt607.1 1).f2).toList = ([62, 61] : List UInt8) then (if 2 < (bt607.1.length : Int) then (if ((rd_T68 bt607.1 2).f3.f1) = (-5) then (if 4 < (bt607.1.length : Int) then (if ((rd_T68 bt607.1 4).f2).toList = ([98] : List UInt8) then (if ((rd_T68 bt607.1 4).f1) = 12 then (if 7 < (bt607.1.length : Int) then (if ((rd_T68 bt607.1 7).f3.f2).toList = ([120] : List UInt8) then (if 3 < (bt607.1.length : Int) then ((lex_Word.f ((rd_T68 bt607.1 3).f0) ((rd_T68 bt607.1 3).f1) ((rd_T68 bt607.1 3).f2) ((rd_T68 bt607.1 3).f3.f0) ((rd_T68 bt607.1 3).f3.f1) ((rd_T68 bt607.1 3).f3.f2) (⟨#[65, 78, 68]⟩ : ByteArray)).bind fun t618 => (if t618 = true then (if 8 < (bt607.1.length : Int) then ((lex_Mark.f ((rd_T68 bt607.1 8).f0) ((rd_T68 bt607.1 8).f1) ((rd_T68 bt607.1 8).f2) ((rd_T68 bt607.1 8).f3.f0) ((rd_T68 bt607.1 8).f3.f1) ((rd_T68 bt607.1 8).f3.f2) (⟨#[125]⟩ : ByteArray)).bind fun t620 => (some t620)) else (none)) else (none))) else (none)) else (none)) else (none)) else (none)) else (none)) else (none)) else (none)) else (none)) else (none)) else (none)) else (none)) else (none)) else (none))) = some r := h
 clear h
 have HT := Aside0.mk hT
 clear hT
 replace H := Option.bind_eq_some_iff.mp H
 obtain ⟨⟨t607, t608, t609⟩, A10, H⟩ := H
 replace H : (if t609 = 0 then (if t608 = 22 then (if (t607.length : Int) = 9 then (if 1 < (t607.length : Int) then (if ((rd_T68 t607 1).f2).toList = ([62, 61] : List UInt8) then (if 2 < (t607.length : Int) then (if ((rd_T68 t607 2).f3.f1) = (-5) then (if 4 < (t607.length : Int) then (if ((rd_T68 t607 4).f2).toList = ([98] : List UInt8) then (if ((rd_T68 t607 4).f1) = 12 then (if 7 < (t607.length : Int) then (if ((rd_T68 t607 7).f3.f2).toList = ([120] : List UInt8) then (if 3 < (t607.length : Int) then ((lex_Word.f ((rd_T68 t607 3).f0) ((rd_T68 t607 3).f1) ((rd_T68 t607 3).f2) ((rd_T68 t607 3).f3.f0) ((rd_T68 t607 3).f3.f1) ((rd_T68 t607 3).f3.f2) (⟨#[65, 78, 68]⟩ : ByteArray)).bind fun t618 => (if t618 = true then (if 8 < (t607.length : Int) then ((lex_Mark.f ((rd_T68 t607 8).f0) ((rd_T68 t607 8).f1) ((rd_T68 t607 8).f2) ((rd_T68 t607 8).f3.f0) ((rd_T68 t607 8).f3.f1) ((rd_T68 t607 8).f3.f2) (⟨#[125]⟩ : ByteArray)).bind fun t620 => (some t620)) else (none)) else (none))) else (none)) else (none)) else (none)) else (none)) else (none)) else (none)) else (none)) else (none)) else (none)) else (none)) else (none)) else (none)) else (none)) = some r := H
 have A1 := Aside0.mk A10
 clear A10
 by_cases c2 : t609 = 0
 ·rw [if_pos c2] at H
  have c2b0 : (t609 == 0) = true := beq_iff_eq.mpr c2
  have c2b1 : (t609 != 0) = false := bne_eq_false_iff_eq.mpr c2
  clear c2
  by_cases c3 : t608 = 22
  ·rw [if_pos c3] at H
   have c3b0 : (t608 == 22) = true := beq_iff_eq.mpr c3
   have c3b1 : (t608 != 22) = false := bne_eq_false_iff_eq.mpr c3
   clear c3
   by_cases c4 : (t607.length : Int) = 9
   ·rw [if_pos c4] at H
    have c4b0 : ((t607.length : Int) == 9) = true := beq_iff_eq.mpr c4
    have c4b1 : ((t607.length : Int) != 9) = false := bne_eq_false_iff_eq.mpr c4
    clear c4
    by_cases c5 : 1 < (t607.length : Int)
    ·rw [if_pos c5] at H
     have c5b0 : decide (1 < (t607.length : Int)) = true := decide_eq_true c5
     have c5b1 : decide (1 < t607.length) = true := decide_eq_true (by omega)
     clear c5
     by_cases c6 : ((rd_T68 t607 1).f2).toList = ([62, 61] : List UInt8)
     ·rw [if_pos c6] at H
      have c6b0 : (((rd_T68 t607 1).f2).toList == ([62, 61] : List UInt8)) = true := beq_iff_eq.mpr c6
      have c6b1 : (((rd_T68 t607 1).f2).toList != ([62, 61] : List UInt8)) = false := bne_eq_false_iff_eq.mpr c6
      clear c6
      by_cases c7 : 2 < (t607.length : Int)
      ·rw [if_pos c7] at H
       have c7b0 : decide (2 < (t607.length : Int)) = true := decide_eq_true c7
       have c7b1 : decide (2 < t607.length) = true := decide_eq_true (by omega)
       clear c7
       by_cases c8 : ((rd_T68 t607 2).f3.f1) = (-5)
       ·rw [if_pos c8] at H
        have c8b0 : (((rd_T68 t607 2).f3.f1) == (-5)) = true := beq_iff_eq.mpr c8
        have c8b1 : (((rd_T68 t607 2).f3.f1) != (-5)) = false := bne_eq_false_iff_eq.mpr c8
        clear c8
        by_cases c9 : 4 < (t607.length : Int)
        ·rw [if_pos c9] at H
         have c9b0 : decide (4 < (t607.length : Int)) = true := decide_eq_true c9
         have c9b1 : decide (4 < t607.length) = true := decide_eq_true (by omega)
         clear c9
         by_cases c10 : ((rd_T68 t607 4).f2).toList = ([98] : List UInt8)
         ·rw [if_pos c10] at H
          have c10b0 : (((rd_T68 t607 4).f2).toList == ([98] : List UInt8)) = true := beq_iff_eq.mpr c10
          have c10b1 : (((rd_T68 t607 4).f2).toList != ([98] : List UInt8)) = false := bne_eq_false_iff_eq.mpr c10
          clear c10
          by_cases c11 : ((rd_T68 t607 4).f1) = 12
          ·rw [if_pos c11] at H
           have c11b0 : (((rd_T68 t607 4).f1) == 12) = true := beq_iff_eq.mpr c11
           have c11b1 : (((rd_T68 t607 4).f1) != 12) = false := bne_eq_false_iff_eq.mpr c11
           clear c11
           by_cases c12 : 7 < (t607.length : Int)
           ·rw [if_pos c12] at H
            have c12b0 : decide (7 < (t607.length : Int)) = true := decide_eq_true c12
            have c12b1 : decide (7 < t607.length) = true := decide_eq_true (by omega)
            clear c12
            by_cases c13 : ((rd_T68 t607 7).f3.f2).toList = ([120] : List UInt8)
            ·rw [if_pos c13] at H
             have c13b0 : (((rd_T68 t607 7).f3.f2).toList == ([120] : List UInt8)) = true := beq_iff_eq.mpr c13
             have c13b1 : (((rd_T68 t607 7).f3.f2).toList != ([120] : List UInt8)) = false := bne_eq_false_iff_eq.mpr c13
             clear c13
             by_cases c14 : 3 < (t607.length : Int)
             ·rw [if_pos c14] at H
              have c14b0 : decide (3 < (t607.length : Int)) = true := decide_eq_true c14
              have c14b1 : decide (3 < t607.length) = true := decide_eq_true (by omega)
              clear c14
              replace H := Option.bind_eq_some_iff.mp H
              obtain ⟨t618, A150, H⟩ := H
              replace H : (if t618 = true then (if 8 < (t607.length : Int) then ((lex_Mark.f ((rd_T68 t607 8).f0) ((rd_T68 t607 8).f1) ((rd_T68 t607 8).f2) ((rd_T68 t607 8).f3.f0) ((rd_T68 t607 8).f3.f1) ((rd_T68 t607 8).f3.f2) (⟨#[125]⟩ : ByteArray)).bind fun t620 => (some t620)) else (none)) else (none)) = some r := H
              have A15 := Aside0.mk A150
              clear A150
              by_cases c16 : t618 = true
              ·subst c16
               have H1 : (if 8 < (t607.length : Int) then ((lex_Mark.f ((rd_T68 t607 8).f0) ((rd_T68 t607 8).f1) ((rd_T68 t607 8).f2) ((rd_T68 t607 8).f3.f0) ((rd_T68 t607 8).f3.f1) ((rd_T68 t607 8).f3.f2) (⟨#[125]⟩ : ByteArray)).bind fun t620 => (some t620)) else (none)) = some r := by rw [if_pos rfl] at H; exact H
               clear H
               have H := H1
               clear H1
               by_cases c17 : 8 < (t607.length : Int)
               ·rw [if_pos c17] at H
                have c17b0 : decide (8 < (t607.length : Int)) = true := decide_eq_true c17
                have c17b1 : decide (8 < t607.length) = true := decide_eq_true (by omega)
                clear c17
                replace H := Option.bind_eq_some_iff.mp H
                obtain ⟨t620, A180, H⟩ := H
                replace H : (some t620) = some r := H
                have A18 := Aside0.mk A180
                clear A180
                obtain rfl := Option.some.inj H
                go_enter Tryd.func24, Tryd.ntmps24
                go_wp2_with (first | ((with_reducible refine gate_callee (f := 25) rfl ?_); refine goesA (some 5) Tryd.func25 #[.string (⟨#[97, 32, 62, 61, 32, 45, 53, 32, 97, 110, 100, 32, 98, 32, 105, 110, 32, 123, 34, 120, 34, 125]⟩ : ByteArray)] ?_; (with_reducible refine (lex_Lex.calls k (⟨#[97, 32, 62, 61, 32, 45, 53, 32, 97, 110, 100, 32, 98, 32, 105, 110, 32, 123, 34, 120, 34, 125]⟩ : ByteArray) t607 t608 t609 _ ?side1 A1.out).mono ?_); (case side1 => exact Tabs.below HT.out bwA); rintro e w19 ⟨v610, rfl, ho0, hb⟩; refine ⟨_, rfl, ?_⟩; have n0_ := Aside0.mk (Kd.R_lower ho0 (below_size bwA)); have n1_ := Aside0.mk (below_step bwA hb); clear HB; have HO611 := n0_; have HB := n1_; clear n0_ n1_; (try clear hb); (try clear hb2); (try clear hk); (try clear hi); (try clear ho0); obtain ⟨Ao20, co20, eo20⟩ := Kd.R_slice HO611.out; subst eo20; have p612 : 0 ≤ (1 : Int) := (by omega); have q612 : 1 < (t607.length : Int) := of_decide_eq_true (by first | (with_reducible assumption) | assumption); obtain ⟨ad612, e612, hx612_0, hx612_1, hx612_2, hx612_3, hx612_4, hx612_5⟩ := at_T68 (Kd.R_reads' HO611.out).2.2 1 p612 q612; cases e612; (try simp only [show (1 : Int).toNat = 1 from rfl, Nat.reduceMul, Nat.reduceEqDiff, Go.Addr.add, ↓reduceIte] at hx612_0); (try simp only [show (1 : Int).toNat = 1 from rfl, Nat.reduceMul, Nat.reduceEqDiff, Go.Addr.add, ↓reduceIte] at hx612_1); (try simp only [show (1 : Int).toNat = 1 from rfl, Nat.reduceMul, Nat.reduceEqDiff, Go.Addr.add, ↓reduceIte] at hx612_2); (try simp only [show (1 : Int).toNat = 1 from rfl, Nat.reduceMul, Nat.reduceEqDiff, Go.Addr.add, ↓reduceIte] at hx612_3); (try simp only [show (1 : Int).toNat = 1 from rfl, Nat.reduceMul, Nat.reduceEqDiff, Go.Addr.add, ↓reduceIte] at hx612_4); (try simp only [show (1 : Int).toNat = 1 from rfl, Nat.reduceMul, Nat.reduceEqDiff, Go.Addr.add, ↓reduceIte] at hx612_5); have qi612 : (1 < t607.length) = True := eq_true (by omega); (try rw [show ((1 : Int)).toNat = 1 from rfl] at hx612_0); (try rw [show 1 * 6 = 6 from rfl] at hx612_0); (try rw [show ((1 : Int)).toNat = 1 from rfl] at hx612_1); (try rw [show 1 * 6 = 6 from rfl] at hx612_1); (try rw [show ((1 : Int)).toNat = 1 from rfl] at hx612_2); (try rw [show 1 * 6 = 6 from rfl] at hx612_2); (try rw [show ((1 : Int)).toNat = 1 from rfl] at hx612_3); (try rw [show 1 * 6 = 6 from rfl] at hx612_3); (try rw [show ((1 : Int)).toNat = 1 from rfl] at hx612_4); (try rw [show 1 * 6 = 6 from rfl] at hx612_4); (try rw [show ((1 : Int)).toNat = 1 from rfl] at hx612_5); (try rw [show 1 * 6 = 6 from rfl] at hx612_5); replace p612 := eq_true p612; replace q612 := eq_true q612; have p613 : 0 ≤ (2 : Int) := (by omega); have q613 : 2 < (t607.length : Int) := of_decide_eq_true (by first | (with_reducible assumption) | assumption); obtain ⟨ad613, e613, hx613_0, hx613_1, hx613_2, hx613_3, hx613_4, hx613_5⟩ := at_T68 (Kd.R_reads' HO611.out).2.2 2 p613 q613; obtain rfl : ad612 = ad613 := (by injection e613); (try simp only [show (2 : Int).toNat = 2 from rfl, Nat.reduceMul, Nat.reduceEqDiff, Go.Addr.add, ↓reduceIte] at hx613_0); (try simp only [show (2 : Int).toNat = 2 from rfl, Nat.reduceMul, Nat.reduceEqDiff, Go.Addr.add, ↓reduceIte] at hx613_1); (try simp only [show (2 : Int).toNat = 2 from rfl, Nat.reduceMul, Nat.reduceEqDiff, Go.Addr.add, ↓reduceIte] at hx613_2); (try simp only [show (2 : Int).toNat = 2 from rfl, Nat.reduceMul, Nat.reduceEqDiff, Go.Addr.add, ↓reduceIte] at hx613_3); (try simp only [show (2 : Int).toNat = 2 from rfl, Nat.reduceMul, Nat.reduceEqDiff, Go.Addr.add, ↓reduceIte] at hx613_4); (try simp only [show (2 : Int).toNat = 2 from rfl, Nat.reduceMul, Nat.reduceEqDiff, Go.Addr.add, ↓reduceIte] at hx613_5); have qi613 : (2 < t607.length) = True := eq_true (by omega); (try rw [show ((2 : Int)).toNat = 2 from rfl] at hx613_0); (try rw [show 2 * 6 = 12 from rfl] at hx613_0); (try rw [show ((2 : Int)).toNat = 2 from rfl] at hx613_1); (try rw [show 2 * 6 = 12 from rfl] at hx613_1); (try rw [show ((2 : Int)).toNat = 2 from rfl] at hx613_2); (try rw [show 2 * 6 = 12 from rfl] at hx613_2); (try rw [show ((2 : Int)).toNat = 2 from rfl] at hx613_3); (try rw [show 2 * 6 = 12 from rfl] at hx613_3); (try rw [show ((2 : Int)).toNat = 2 from rfl] at hx613_4); (try rw [show 2 * 6 = 12 from rfl] at hx613_4); (try rw [show ((2 : Int)).toNat = 2 from rfl] at hx613_5); (try rw [show 2 * 6 = 12 from rfl] at hx613_5); replace p613 := eq_true p613; replace q613 := eq_true q613; have p614 : 0 ≤ (4 : Int) := (by omega); have q614 : 4 < (t607.length : Int) := of_decide_eq_true (by first | (with_reducible assumption) | assumption); obtain ⟨ad614, e614, hx614_0, hx614_1, hx614_2, hx614_3, hx614_4, hx614_5⟩ := at_T68 (Kd.R_reads' HO611.out).2.2 4 p614 q614; obtain rfl : ad612 = ad614 := (by injection e614); (try simp only [show (4 : Int).toNat = 4 from rfl, Nat.reduceMul, Nat.reduceEqDiff, Go.Addr.add, ↓reduceIte] at hx614_0); (try simp only [show (4 : Int).toNat = 4 from rfl, Nat.reduceMul, Nat.reduceEqDiff, Go.Addr.add, ↓reduceIte] at hx614_1); (try simp only [show (4 : Int).toNat = 4 from rfl, Nat.reduceMul, Nat.reduceEqDiff, Go.Addr.add, ↓reduceIte] at hx614_2); (try simp only [show (4 : Int).toNat = 4 from rfl, Nat.reduceMul, Nat.reduceEqDiff, Go.Addr.add, ↓reduceIte] at hx614_3); (try simp only [show (4 : Int).toNat = 4 from rfl, Nat.reduceMul, Nat.reduceEqDiff, Go.Addr.add, ↓reduceIte] at hx614_4); (try simp only [show (4 : Int).toNat = 4 from rfl, Nat.reduceMul, Nat.reduceEqDiff, Go.Addr.add, ↓reduceIte] at hx614_5); have qi614 : (4 < t607.length) = True := eq_true (by omega); (try rw [show ((4 : Int)).toNat = 4 from rfl] at hx614_0); (try rw [show 4 * 6 = 24 from rfl] at hx614_0); (try rw [show ((4 : Int)).toNat = 4 from rfl] at hx614_1); (try rw [show 4 * 6 = 24 from rfl] at hx614_1); (try rw [show ((4 : Int)).toNat = 4 from rfl] at hx614_2); (try rw [show 4 * 6 = 24 from rfl] at hx614_2); (try rw [show ((4 : Int)).toNat = 4 from rfl] at hx614_3); (try rw [show 4 * 6 = 24 from rfl] at hx614_3); (try rw [show ((4 : Int)).toNat = 4 from rfl] at hx614_4); (try rw [show 4 * 6 = 24 from rfl] at hx614_4); (try rw [show ((4 : Int)).toNat = 4 from rfl] at hx614_5); (try rw [show 4 * 6 = 24 from rfl] at hx614_5); replace p614 := eq_true p614; replace q614 := eq_true q614; have p615 : 0 ≤ (4 : Int) := (by omega); have q615 : 4 < (t607.length : Int) := of_decide_eq_true (by first | (with_reducible assumption) | assumption); obtain ⟨ad615, e615, hx615_0, hx615_1, hx615_2, hx615_3, hx615_4, hx615_5⟩ := at_T68 (Kd.R_reads' HO611.out).2.2 4 p615 q615; obtain rfl : ad612 = ad615 := (by injection e615); (try simp only [show (4 : Int).toNat = 4 from rfl, Nat.reduceMul, Nat.reduceEqDiff, Go.Addr.add, ↓reduceIte] at hx615_0); (try simp only [show (4 : Int).toNat = 4 from rfl, Nat.reduceMul, Nat.reduceEqDiff, Go.Addr.add, ↓reduceIte] at hx615_1); (try simp only [show (4 : Int).toNat = 4 from rfl, Nat.reduceMul, Nat.reduceEqDiff, Go.Addr.add, ↓reduceIte] at hx615_2); (try simp only [show (4 : Int).toNat = 4 from rfl, Nat.reduceMul, Nat.reduceEqDiff, Go.Addr.add, ↓reduceIte] at hx615_3); (try simp only [show (4 : Int).toNat = 4 from rfl, Nat.reduceMul, Nat.reduceEqDiff, Go.Addr.add, ↓reduceIte] at hx615_4); (try simp only [show (4 : Int).toNat = 4 from rfl, Nat.reduceMul, Nat.reduceEqDiff, Go.Addr.add, ↓reduceIte] at hx615_5); have qi615 : (4 < t607.length) = True := eq_true (by omega); (try rw [show ((4 : Int)).toNat = 4 from rfl] at hx615_0); (try rw [show 4 * 6 = 24 from rfl] at hx615_0); (try rw [show ((4 : Int)).toNat = 4 from rfl] at hx615_1); (try rw [show 4 * 6 = 24 from rfl] at hx615_1); (try rw [show ((4 : Int)).toNat = 4 from rfl] at hx615_2); (try rw [show 4 * 6 = 24 from rfl] at hx615_2); (try rw [show ((4 : Int)).toNat = 4 from rfl] at hx615_3); (try rw [show 4 * 6 = 24 from rfl] at hx615_3); (try rw [show ((4 : Int)).toNat = 4 from rfl] at hx615_4); (try rw [show 4 * 6 = 24 from rfl] at hx615_4); (try rw [show ((4 : Int)).toNat = 4 from rfl] at hx615_5); (try rw [show 4 * 6 = 24 from rfl] at hx615_5); replace p615 := eq_true p615; replace q615 := eq_true q615; have p616 : 0 ≤ (7 : Int) := (by omega); have q616 : 7 < (t607.length : Int) := of_decide_eq_true (by first | (with_reducible assumption) | assumption); obtain ⟨ad616, e616, hx616_0, hx616_1, hx616_2, hx616_3, hx616_4, hx616_5⟩ := at_T68 (Kd.R_reads' HO611.out).2.2 7 p616 q616; obtain rfl : ad612 = ad616 := (by injection e616); (try simp only [show (7 : Int).toNat = 7 from rfl, Nat.reduceMul, Nat.reduceEqDiff, Go.Addr.add, ↓reduceIte] at hx616_0); (try simp only [show (7 : Int).toNat = 7 from rfl, Nat.reduceMul, Nat.reduceEqDiff, Go.Addr.add, ↓reduceIte] at hx616_1); (try simp only [show (7 : Int).toNat = 7 from rfl, Nat.reduceMul, Nat.reduceEqDiff, Go.Addr.add, ↓reduceIte] at hx616_2); (try simp only [show (7 : Int).toNat = 7 from rfl, Nat.reduceMul, Nat.reduceEqDiff, Go.Addr.add, ↓reduceIte] at hx616_3); (try simp only [show (7 : Int).toNat = 7 from rfl, Nat.reduceMul, Nat.reduceEqDiff, Go.Addr.add, ↓reduceIte] at hx616_4); (try simp only [show (7 : Int).toNat = 7 from rfl, Nat.reduceMul, Nat.reduceEqDiff, Go.Addr.add, ↓reduceIte] at hx616_5); have qi616 : (7 < t607.length) = True := eq_true (by omega); (try rw [show ((7 : Int)).toNat = 7 from rfl] at hx616_0); (try rw [show 7 * 6 = 42 from rfl] at hx616_0); (try rw [show ((7 : Int)).toNat = 7 from rfl] at hx616_1); (try rw [show 7 * 6 = 42 from rfl] at hx616_1); (try rw [show ((7 : Int)).toNat = 7 from rfl] at hx616_2); (try rw [show 7 * 6 = 42 from rfl] at hx616_2); (try rw [show ((7 : Int)).toNat = 7 from rfl] at hx616_3); (try rw [show 7 * 6 = 42 from rfl] at hx616_3); (try rw [show ((7 : Int)).toNat = 7 from rfl] at hx616_4); (try rw [show 7 * 6 = 42 from rfl] at hx616_4); (try rw [show ((7 : Int)).toNat = 7 from rfl] at hx616_5); (try rw [show 7 * 6 = 42 from rfl] at hx616_5); replace p616 := eq_true p616; replace q616 := eq_true q616; have p617 : 0 ≤ (3 : Int) := (by omega); have q617 : 3 < (t607.length : Int) := of_decide_eq_true (by first | (with_reducible assumption) | assumption); obtain ⟨ad617, e617, hx617_0, hx617_1, hx617_2, hx617_3, hx617_4, hx617_5⟩ := at_T68 (Kd.R_reads' HO611.out).2.2 3 p617 q617; obtain rfl : ad612 = ad617 := (by injection e617); (try simp only [show (3 : Int).toNat = 3 from rfl, Nat.reduceMul, Nat.reduceEqDiff, Go.Addr.add, ↓reduceIte] at hx617_0); (try simp only [show (3 : Int).toNat = 3 from rfl, Nat.reduceMul, Nat.reduceEqDiff, Go.Addr.add, ↓reduceIte] at hx617_1); (try simp only [show (3 : Int).toNat = 3 from rfl, Nat.reduceMul, Nat.reduceEqDiff, Go.Addr.add, ↓reduceIte] at hx617_2); (try simp only [show (3 : Int).toNat = 3 from rfl, Nat.reduceMul, Nat.reduceEqDiff, Go.Addr.add, ↓reduceIte] at hx617_3); (try simp only [show (3 : Int).toNat = 3 from rfl, Nat.reduceMul, Nat.reduceEqDiff, Go.Addr.add, ↓reduceIte] at hx617_4); (try simp only [show (3 : Int).toNat = 3 from rfl, Nat.reduceMul, Nat.reduceEqDiff, Go.Addr.add, ↓reduceIte] at hx617_5); have qi617 : (3 < t607.length) = True := eq_true (by omega); (try rw [show ((3 : Int)).toNat = 3 from rfl] at hx617_0); (try rw [show 3 * 6 = 18 from rfl] at hx617_0); (try rw [show ((3 : Int)).toNat = 3 from rfl] at hx617_1); (try rw [show 3 * 6 = 18 from rfl] at hx617_1); (try rw [show ((3 : Int)).toNat = 3 from rfl] at hx617_2); (try rw [show 3 * 6 = 18 from rfl] at hx617_2); (try rw [show ((3 : Int)).toNat = 3 from rfl] at hx617_3); (try rw [show 3 * 6 = 18 from rfl] at hx617_3); (try rw [show ((3 : Int)).toNat = 3 from rfl] at hx617_4); (try rw [show 3 * 6 = 18 from rfl] at hx617_4); (try rw [show ((3 : Int)).toNat = 3 from rfl] at hx617_5); (try rw [show 3 * 6 = 18 from rfl] at hx617_5); replace p617 := eq_true p617; replace q617 := eq_true q617) | (go_at_call 51; (with_reducible refine (lex_Word.calls ((rd_T68 t607 3).f0) ((rd_T68 t607 3).f1) ((rd_T68 t607 3).f2) ((rd_T68 t607 3).f3.f0) ((rd_T68 t607 3).f3.f1) ((rd_T68 t607 3).f3.f2) (⟨#[65, 78, 68]⟩ : ByteArray) true _ ?side1 A15.out).mono ?_); (case side1 => exact Tabs.below HT.out bwA); rintro e w21 ⟨rfl, hb⟩; have n0_ := Aside0.mk (Kd.R_below (by (with_reducible repeat (first | apply Kd.R_alloc | apply Kd.R_drewN | apply Kd.R_drew)); exact HO611.out) hb); have n1_ := Aside0.mk (below_step bwA hb); clear HO611; clear HB; have HO611 := n0_; have HB := n1_; clear n0_ n1_; (try clear hb); (try clear hb2); (try clear hk); (try clear hi); have p619 : 0 ≤ (8 : Int) := (by omega); have q619 : 8 < (t607.length : Int) := of_decide_eq_true (by first | (with_reducible assumption) | assumption); obtain ⟨ad619, e619, hx619_0, hx619_1, hx619_2, hx619_3, hx619_4, hx619_5⟩ := at_T68 (Kd.R_reads' HO611.out).2.2 8 p619 q619; obtain rfl : ad612 = ad619 := (by injection e619); (try simp only [show (8 : Int).toNat = 8 from rfl, Nat.reduceMul, Nat.reduceEqDiff, Go.Addr.add, ↓reduceIte] at hx619_0); (try simp only [show (8 : Int).toNat = 8 from rfl, Nat.reduceMul, Nat.reduceEqDiff, Go.Addr.add, ↓reduceIte] at hx619_1); (try simp only [show (8 : Int).toNat = 8 from rfl, Nat.reduceMul, Nat.reduceEqDiff, Go.Addr.add, ↓reduceIte] at hx619_2); (try simp only [show (8 : Int).toNat = 8 from rfl, Nat.reduceMul, Nat.reduceEqDiff, Go.Addr.add, ↓reduceIte] at hx619_3); (try simp only [show (8 : Int).toNat = 8 from rfl, Nat.reduceMul, Nat.reduceEqDiff, Go.Addr.add, ↓reduceIte] at hx619_4); (try simp only [show (8 : Int).toNat = 8 from rfl, Nat.reduceMul, Nat.reduceEqDiff, Go.Addr.add, ↓reduceIte] at hx619_5); have qi619 : (8 < t607.length) = True := eq_true (by omega); (try rw [show ((8 : Int)).toNat = 8 from rfl] at hx619_0); (try rw [show 8 * 6 = 48 from rfl] at hx619_0); (try rw [show ((8 : Int)).toNat = 8 from rfl] at hx619_1); (try rw [show 8 * 6 = 48 from rfl] at hx619_1); (try rw [show ((8 : Int)).toNat = 8 from rfl] at hx619_2); (try rw [show 8 * 6 = 48 from rfl] at hx619_2); (try rw [show ((8 : Int)).toNat = 8 from rfl] at hx619_3); (try rw [show 8 * 6 = 48 from rfl] at hx619_3); (try rw [show ((8 : Int)).toNat = 8 from rfl] at hx619_4); (try rw [show 8 * 6 = 48 from rfl] at hx619_4); (try rw [show ((8 : Int)).toNat = 8 from rfl] at hx619_5); (try rw [show 8 * 6 = 48 from rfl] at hx619_5); replace p619 := eq_true p619; replace q619 := eq_true q619) | (go_at_call 52; (with_reducible refine (lex_Mark.calls ((rd_T68 t607 8).f0) ((rd_T68 t607 8).f1) ((rd_T68 t607 8).f2) ((rd_T68 t607 8).f3.f0) ((rd_T68 t607 8).f3.f1) ((rd_T68 t607 8).f3.f2) (⟨#[125]⟩ : ByteArray) t620 _ A18.out).mono ?_); rintro e w22 ⟨rfl, hb⟩; have n0_ := Aside0.mk (Kd.R_below (by (with_reducible repeat (first | apply Kd.R_alloc | apply Kd.R_drewN | apply Kd.R_drew)); exact HO611.out) hb); have n1_ := Aside0.mk (below_step bwA hb); clear HO611; clear HB; have HO611 := n0_; have HB := n1_; clear n0_ n1_; (try clear hb); (try clear hb2); (try clear hk); (try clear hi)))
                go_ret
                exact ⟨by first | rfl | (simp [errW_none, errW_some] <;> rfl) | (simp [*, errW_none, errW_some] <;> rfl), by repeat (first | (with_reducible first | exact HB.out | apply below_alloc | apply pw_below_drewN | apply below_drew1) | exact HB.out)⟩
               ·rw [if_neg c17] at H
                exact absurd H (by simp)
              ·replace c16 := Bool.eq_false_iff.mpr c16
               subst c16
               have H1 : (none) = some r := by rw [if_neg (show ¬ (false = true) by decide)] at H; exact H
               clear H
               have H := H1
               clear H1
               exact absurd H (by simp)
             ·rw [if_neg c14] at H
              exact absurd H (by simp)
            ·rw [if_neg c13] at H
             exact absurd H (by simp)
           ·rw [if_neg c12] at H
            exact absurd H (by simp)
          ·rw [if_neg c11] at H
           exact absurd H (by simp)
         ·rw [if_neg c10] at H
          exact absurd H (by simp)
        ·rw [if_neg c9] at H
         exact absurd H (by simp)
       ·rw [if_neg c8] at H
        exact absurd H (by simp)
      ·rw [if_neg c7] at H
       exact absurd H (by simp)
     ·rw [if_neg c6] at H
      exact absurd H (by simp)
    ·rw [if_neg c5] at H
     exact absurd H (by simp)
   ·rw [if_neg c4] at H
    exact absurd H (by simp)
  ·rw [if_neg c3] at H
   exact absurd H (by simp)
 ·rw [if_neg c2] at H
  exact absurd H (by simp)

end Go.Proofs.YtoajlmmkkcelgaaDoor.A
