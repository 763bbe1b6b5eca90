-- By drv.py, the session's own driver round the kit's print: the machine's side of the laws, function by function. Not trusted: Lean checks it.
import Derived.Test.YtbbfggfiknbdmaaDoorAx0
import Derived.Test.YtbbfggfiknbdmaaDoorAx2
namespace Go.Proofs.YtbbfggfiknbdmaaDoor.A
open Go.RowKit Go.Proofs.YtbbfggfiknbdmaaDoorW.PrintWords Go.Proofs.YtbbfggfiknbdmaaDoorW.PrintLast Go.Proofs.YtbbfggfiknbdmaaDoorW.PrintMore
attribute [local go_sem] max2_int min2_int max_two min_two max_three min_three max_four min_four   -- for this text's walks alone
set_option linter.unusedVariables false
set_option linter.unusedSimpArgs false

/-! ### name_Small: function 63 -/
def name_Small.f (a0 : Int) : Option (Int) := (name_between.f a0 65 90).bind fun t126 => (if t126 = true then (some (wrap32 (a0 + 32))) else ((name_between.f a0 192 222).bind fun t127 => (if t127 = true then (if a0 = 215 then ((name_between.f a0 913 937).bind fun t128 => (if t128 = true then (if a0 = 930 then ((name_between.f a0 1040 1071).bind fun t129 => (if t129 = true then (some (wrap32 (a0 + 32))) else (some a0))) else (some (wrap32 (a0 + 32)))) else ((name_between.f a0 1040 1071).bind fun t130 => (if t130 = true then (some (wrap32 (a0 + 32))) else (some a0))))) else (some (wrap32 (a0 + 32)))) else ((name_between.f a0 913 937).bind fun t131 => (if t131 = true then (if a0 = 930 then ((name_between.f a0 1040 1071).bind fun t132 => (if t132 = true then (some (wrap32 (a0 + 32))) else (some a0))) else (some (wrap32 (a0 + 32)))) else ((name_between.f a0 1040 1071).bind fun t133 => (if t133 = true then (some (wrap32 (a0 + 32))) else (some a0))))))))
set_option maxHeartbeats 8000000 in
set_option maxRecDepth 100000 in
theorem name_Small.calls (a0 : Int) (r : Int) (w : World) (h : name_Small.f a0 = some r) :
  Calls Tryd.prog 63 #[.int .i32 a0] w fun e w' => e = .returned (.int .i32 r) ∧ Drawn0 w w' := by
 have H : ((name_between.f a0 65 90).bind fun t126 => (if t126 = true then (some (wrap32 (a0 + 32))) else ((name_between.f a0 192 222).bind fun t127 => (if t127 = true then (if a0 = 215 then ((name_between.f a0 913 937).bind fun t128 => (if t128 = true then (if a0 = 930 then ((name_between.f a0 1040 1071).bind fun t129 => (if t129 = true then (some (wrap32 (a0 + 32))) else (some a0))) else (some (wrap32 (a0 + 32)))) else ((name_between.f a0 1040 1071).bind fun t130 => (if t130 = true then (some (wrap32 (a0 + 32))) else (some a0))))) else (some (wrap32 (a0 + 32)))) else ((name_between.f a0 913 937).bind fun t131 => (if t131 = true then (if a0 = 930 then ((name_between.f a0 1040 1071).bind fun t132 => (if t132 = true then (some (wrap32 (a0 + 32))) else (some a0))) else (some (wrap32 (a0 + 32)))) else ((name_between.f a0 1040 1071).bind fun t133 => (if t133 = true then (some (wrap32 (a0 + 32))) else (some a0))))))))) = some r := h
 clear h
 replace H := Option.bind_eq_some_iff.mp H
 obtain ⟨t126, A20, H⟩ := H
 replace H : (if t126 = true then (some (wrap32 (a0 + 32))) else ((name_between.f a0 192 222).bind fun t127 => (if t127 = true then (if a0 = 215 then ((name_between.f a0 913 937).bind fun t128 => (if t128 = true then (if a0 = 930 then ((name_between.f a0 1040 1071).bind fun t129 => (if t129 = true then (some (wrap32 (a0 + 32))) else (some a0))) else (some (wrap32 (a0 + 32)))) else ((name_between.f a0 1040 1071).bind fun t130 => (if t130 = true then (some (wrap32 (a0 + 32))) else (some a0))))) else (some (wrap32 (a0 + 32)))) else ((name_between.f a0 913 937).bind fun t131 => (if t131 = true then (if a0 = 930 then ((name_between.f a0 1040 1071).bind fun t132 => (if t132 = true then (some (wrap32 (a0 + 32))) else (some a0))) else (some (wrap32 (a0 + 32)))) else ((name_between.f a0 1040 1071).bind fun t133 => (if t133 = true then (some (wrap32 (a0 + 32))) else (some a0)))))))) = some r := H
 have A2 := Aside0.mk A20
 clear A20
 by_cases c3 : t126 = true
 ·subst c3
  have H1 : (some (wrap32 (a0 + 32))) = some r := by rw [if_pos rfl] at H; exact H
  clear H
  have H := H1
  clear H1
  obtain rfl := Option.some.inj H
  go_enter Tryd.func63, Tryd.ntmps63
  go_wp2_with (first | ((with_reducible refine gate_callee (f := 79) rfl ?_); refine goesA (some 4) Tryd.func79 #[.int .i32 a0, .int .i32 65, .int .i32 90] ?_; (with_reducible refine (name_between.calls a0 65 90 true _ A2.out).mono ?_); rintro e w' ⟨rfl, ⟨nd, rfl⟩⟩; refine ⟨_, rfl, ?_⟩))
  go_ret
  exact ⟨endS, drA⟩
 ·replace c3 := Bool.eq_false_iff.mpr c3
  subst c3
  have H1 : ((name_between.f a0 192 222).bind fun t127 => (if t127 = true then (if a0 = 215 then ((name_between.f a0 913 937).bind fun t128 => (if t128 = true then (if a0 = 930 then ((name_between.f a0 1040 1071).bind fun t129 => (if t129 = true then (some (wrap32 (a0 + 32))) else (some a0))) else (some (wrap32 (a0 + 32)))) else ((name_between.f a0 1040 1071).bind fun t130 => (if t130 = true then (some (wrap32 (a0 + 32))) else (some a0))))) else (some (wrap32 (a0 + 32)))) else ((name_between.f a0 913 937).bind fun t131 => (if t131 = true then (if a0 = 930 then ((name_between.f a0 1040 1071).bind fun t132 => (if t132 = true then (some (wrap32 (a0 + 32))) else (some a0))) else (some (wrap32 (a0 + 32)))) else ((name_between.f a0 1040 1071).bind fun t133 => (if t133 = true then (some (wrap32 (a0 + 32))) else (some a0))))))) = some r := by rw [if_neg (show ¬ (false = true) by decide)] at H; exact H
  clear H
  have H := H1
  clear H1
  replace H := Option.bind_eq_some_iff.mp H
  obtain ⟨t127, A40, H⟩ := H
  replace H : (if t127 = true then (if a0 = 215 then ((name_between.f a0 913 937).bind fun t128 => (if t128 = true then (if a0 = 930 then ((name_between.f a0 1040 1071).bind fun t129 => (if t129 = true then (some (wrap32 (a0 + 32))) else (some a0))) else (some (wrap32 (a0 + 32)))) else ((name_between.f a0 1040 1071).bind fun t130 => (if t130 = true then (some (wrap32 (a0 + 32))) else (some a0))))) else (some (wrap32 (a0 + 32)))) else ((name_between.f a0 913 937).bind fun t131 => (if t131 = true then (if a0 = 930 then ((name_between.f a0 1040 1071).bind fun t132 => (if t132 = true then (some (wrap32 (a0 + 32))) else (some a0))) else (some (wrap32 (a0 + 32)))) else ((name_between.f a0 1040 1071).bind fun t133 => (if t133 = true then (some (wrap32 (a0 + 32))) else (some a0)))))) = some r := H
  have A4 := Aside0.mk A40
  clear A40
  by_cases c5 : t127 = true
  ·subst c5
   have H1 : (if a0 = 215 then ((name_between.f a0 913 937).bind fun t128 => (if t128 = true then (if a0 = 930 then ((name_between.f a0 1040 1071).bind fun t129 => (if t129 = true then (some (wrap32 (a0 + 32))) else (some a0))) else (some (wrap32 (a0 + 32)))) else ((name_between.f a0 1040 1071).bind fun t130 => (if t130 = true then (some (wrap32 (a0 + 32))) else (some a0))))) else (some (wrap32 (a0 + 32)))) = some r := by rw [if_pos rfl] at H; exact H
   clear H
   have H := H1
   clear H1
   by_cases c6 : a0 = 215
   ·rw [if_pos c6] at H
    have c6b0 : (a0 == 215) = true := beq_iff_eq.mpr c6
    have c6b1 : (a0 != 215) = false := bne_eq_false_iff_eq.mpr c6
    clear c6
    replace H := Option.bind_eq_some_iff.mp H
    obtain ⟨t128, A70, H⟩ := H
    replace H : (if t128 = true then (if a0 = 930 then ((name_between.f a0 1040 1071).bind fun t129 => (if t129 = true then (some (wrap32 (a0 + 32))) else (some a0))) else (some (wrap32 (a0 + 32)))) else ((name_between.f a0 1040 1071).bind fun t130 => (if t130 = true then (some (wrap32 (a0 + 32))) else (some a0)))) = some r := H
    have A7 := Aside0.mk A70
    clear A70
    by_cases c8 : t128 = true
    ·subst c8
     have H1 : (if a0 = 930 then ((name_between.f a0 1040 1071).bind fun t129 => (if t129 = true then (some (wrap32 (a0 + 32))) else (some a0))) else (some (wrap32 (a0 + 32)))) = some r := by rw [if_pos rfl] at H; exact H
     clear H
     have H := H1
     clear H1
     by_cases c9 : a0 = 930
     ·rw [if_pos c9] at H
      have c9b0 : (a0 == 930) = true := beq_iff_eq.mpr c9
      have c9b1 : (a0 != 930) = false := bne_eq_false_iff_eq.mpr c9
      clear c9
      replace H := Option.bind_eq_some_iff.mp H
      obtain ⟨t129, A100, H⟩ := H
      replace H : (if t129 = true then (some (wrap32 (a0 + 32))) else (some a0)) = some r := H
      have A10 := Aside0.mk A100
      clear A100
      by_cases c11 : t129 = true
      ·subst c11
       have H1 : (some (wrap32 (a0 + 32))) = some r := by rw [if_pos rfl] at H; exact H
       clear H
       have H := H1
       clear H1
       obtain rfl := Option.some.inj H
       go_enter Tryd.func63, Tryd.ntmps63
       go_wp2_with (first | ((with_reducible refine gate_callee (f := 79) rfl ?_); refine goesA (some 4) Tryd.func79 #[.int .i32 a0, .int .i32 65, .int .i32 90] ?_; (with_reducible refine (name_between.calls a0 65 90 false _ A2.out).mono ?_); rintro e w' ⟨rfl, ⟨nd, rfl⟩⟩; refine ⟨_, rfl, ?_⟩) | (go_at_call 79; (with_reducible refine (name_between.calls a0 192 222 true _ A4.out).mono ?_); rintro e w' ⟨rfl, ⟨nd, rfl⟩⟩) | (go_at_call 79; (with_reducible refine (name_between.calls a0 913 937 true _ A7.out).mono ?_); rintro e w' ⟨rfl, ⟨nd, rfl⟩⟩) | (go_at_call 79; (with_reducible refine (name_between.calls a0 1040 1071 true _ A10.out).mono ?_); rintro e w' ⟨rfl, ⟨nd, rfl⟩⟩))
       go_ret
       exact ⟨endS, drA⟩
      ·replace c11 := Bool.eq_false_iff.mpr c11
       subst c11
       have H1 : (some a0) = some r := by rw [if_neg (show ¬ (false = true) by decide)] at H; exact H
       clear H
       have H := H1
       clear H1
       obtain rfl := Option.some.inj H
       go_enter Tryd.func63, Tryd.ntmps63
       go_wp2_with (first | ((with_reducible refine gate_callee (f := 79) rfl ?_); refine goesA (some 4) Tryd.func79 #[.int .i32 a0, .int .i32 65, .int .i32 90] ?_; (with_reducible refine (name_between.calls a0 65 90 false _ A2.out).mono ?_); rintro e w' ⟨rfl, ⟨nd, rfl⟩⟩; refine ⟨_, rfl, ?_⟩) | (go_at_call 79; (with_reducible refine (name_between.calls a0 192 222 true _ A4.out).mono ?_); rintro e w' ⟨rfl, ⟨nd, rfl⟩⟩) | (go_at_call 79; (with_reducible refine (name_between.calls a0 913 937 true _ A7.out).mono ?_); rintro e w' ⟨rfl, ⟨nd, rfl⟩⟩) | (go_at_call 79; (with_reducible refine (name_between.calls a0 1040 1071 false _ A10.out).mono ?_); rintro e w' ⟨rfl, ⟨nd, rfl⟩⟩))
       go_ret
       exact ⟨endS, drA⟩
     ·rw [if_neg c9] at H
      have c9b0 : (a0 == 930) = false := beq_eq_false_iff_ne.mpr c9
      have c9b1 : (a0 != 930) = true := bne_iff_ne.mpr c9
      obtain rfl := Option.some.inj H
      go_enter Tryd.func63, Tryd.ntmps63
      go_wp2_with (first | ((with_reducible refine gate_callee (f := 79) rfl ?_); refine goesA (some 4) Tryd.func79 #[.int .i32 a0, .int .i32 65, .int .i32 90] ?_; (with_reducible refine (name_between.calls a0 65 90 false _ A2.out).mono ?_); rintro e w' ⟨rfl, ⟨nd, rfl⟩⟩; refine ⟨_, rfl, ?_⟩) | (go_at_call 79; (with_reducible refine (name_between.calls a0 192 222 true _ A4.out).mono ?_); rintro e w' ⟨rfl, ⟨nd, rfl⟩⟩) | (go_at_call 79; (with_reducible refine (name_between.calls a0 913 937 true _ A7.out).mono ?_); rintro e w' ⟨rfl, ⟨nd, rfl⟩⟩))
      go_ret
      exact ⟨endS, drA⟩
    ·replace c8 := Bool.eq_false_iff.mpr c8
     subst c8
     have H1 : ((name_between.f a0 1040 1071).bind fun t130 => (if t130 = true then (some (wrap32 (a0 + 32))) else (some a0))) = some r := by rw [if_neg (show ¬ (false = true) by decide)] at H; exact H
     clear H
     have H := H1
     clear H1
     replace H := Option.bind_eq_some_iff.mp H
     obtain ⟨t130, A120, H⟩ := H
     replace H : (if t130 = true then (some (wrap32 (a0 + 32))) else (some a0)) = some r := H
     have A12 := Aside0.mk A120
     clear A120
     by_cases c13 : t130 = true
     ·subst c13
      have H1 : (some (wrap32 (a0 + 32))) = some r := by rw [if_pos rfl] at H; exact H
      clear H
      have H := H1
      clear H1
      obtain rfl := Option.some.inj H
      go_enter Tryd.func63, Tryd.ntmps63
      go_wp2_with (first | ((with_reducible refine gate_callee (f := 79) rfl ?_); refine goesA (some 4) Tryd.func79 #[.int .i32 a0, .int .i32 65, .int .i32 90] ?_; (with_reducible refine (name_between.calls a0 65 90 false _ A2.out).mono ?_); rintro e w' ⟨rfl, ⟨nd, rfl⟩⟩; refine ⟨_, rfl, ?_⟩) | (go_at_call 79; (with_reducible refine (name_between.calls a0 192 222 true _ A4.out).mono ?_); rintro e w' ⟨rfl, ⟨nd, rfl⟩⟩) | (go_at_call 79; (with_reducible refine (name_between.calls a0 913 937 false _ A7.out).mono ?_); rintro e w' ⟨rfl, ⟨nd, rfl⟩⟩) | (go_at_call 79; (with_reducible refine (name_between.calls a0 1040 1071 true _ A12.out).mono ?_); rintro e w' ⟨rfl, ⟨nd, rfl⟩⟩))
      go_ret
      exact ⟨endS, drA⟩
     ·replace c13 := Bool.eq_false_iff.mpr c13
      subst c13
      have H1 : (some a0) = some r := by rw [if_neg (show ¬ (false = true) by decide)] at H; exact H
      clear H
      have H := H1
      clear H1
      obtain rfl := Option.some.inj H
      go_enter Tryd.func63, Tryd.ntmps63
      go_wp2_with (first | ((with_reducible refine gate_callee (f := 79) rfl ?_); refine goesA (some 4) Tryd.func79 #[.int .i32 a0, .int .i32 65, .int .i32 90] ?_; (with_reducible refine (name_between.calls a0 65 90 false _ A2.out).mono ?_); rintro e w' ⟨rfl, ⟨nd, rfl⟩⟩; refine ⟨_, rfl, ?_⟩) | (go_at_call 79; (with_reducible refine (name_between.calls a0 192 222 true _ A4.out).mono ?_); rintro e w' ⟨rfl, ⟨nd, rfl⟩⟩) | (go_at_call 79; (with_reducible refine (name_between.calls a0 913 937 false _ A7.out).mono ?_); rintro e w' ⟨rfl, ⟨nd, rfl⟩⟩) | (go_at_call 79; (with_reducible refine (name_between.calls a0 1040 1071 false _ A12.out).mono ?_); rintro e w' ⟨rfl, ⟨nd, rfl⟩⟩))
      go_ret
      exact ⟨endS, drA⟩
   ·rw [if_neg c6] at H
    have c6b0 : (a0 == 215) = false := beq_eq_false_iff_ne.mpr c6
    have c6b1 : (a0 != 215) = true := bne_iff_ne.mpr c6
    obtain rfl := Option.some.inj H
    go_enter Tryd.func63, Tryd.ntmps63
    go_wp2_with (first | ((with_reducible refine gate_callee (f := 79) rfl ?_); refine goesA (some 4) Tryd.func79 #[.int .i32 a0, .int .i32 65, .int .i32 90] ?_; (with_reducible refine (name_between.calls a0 65 90 false _ A2.out).mono ?_); rintro e w' ⟨rfl, ⟨nd, rfl⟩⟩; refine ⟨_, rfl, ?_⟩) | (go_at_call 79; (with_reducible refine (name_between.calls a0 192 222 true _ A4.out).mono ?_); rintro e w' ⟨rfl, ⟨nd, rfl⟩⟩))
    go_ret
    exact ⟨endS, drA⟩
  ·replace c5 := Bool.eq_false_iff.mpr c5
   subst c5
   have H1 : ((name_between.f a0 913 937).bind fun t131 => (if t131 = true then (if a0 = 930 then ((name_between.f a0 1040 1071).bind fun t132 => (if t132 = true then (some (wrap32 (a0 + 32))) else (some a0))) else (some (wrap32 (a0 + 32)))) else ((name_between.f a0 1040 1071).bind fun t133 => (if t133 = true then (some (wrap32 (a0 + 32))) else (some a0))))) = some r := by rw [if_neg (show ¬ (false = true) by decide)] at H; exact H
   clear H
   have H := H1
   clear H1
   replace H := Option.bind_eq_some_iff.mp H
   obtain ⟨t131, A140, H⟩ := H
   replace H : (if t131 = true then (if a0 = 930 then ((name_between.f a0 1040 1071).bind fun t132 => (if t132 = true then (some (wrap32 (a0 + 32))) else (some a0))) else (some (wrap32 (a0 + 32)))) else ((name_between.f a0 1040 1071).bind fun t133 => (if t133 = true then (some (wrap32 (a0 + 32))) else (some a0)))) = some r := H
   have A14 := Aside0.mk A140
   clear A140
   by_cases c15 : t131 = true
   ·subst c15
    have H1 : (if a0 = 930 then ((name_between.f a0 1040 1071).bind fun t132 => (if t132 = true then (some (wrap32 (a0 + 32))) else (some a0))) else (some (wrap32 (a0 + 32)))) = some r := by rw [if_pos rfl] at H; exact H
    clear H
    have H := H1
    clear H1
    by_cases c16 : a0 = 930
    ·rw [if_pos c16] at H
     have c16b0 : (a0 == 930) = true := beq_iff_eq.mpr c16
     have c16b1 : (a0 != 930) = false := bne_eq_false_iff_eq.mpr c16
     clear c16
     replace H := Option.bind_eq_some_iff.mp H
     obtain ⟨t132, A170, H⟩ := H
     replace H : (if t132 = true then (some (wrap32 (a0 + 32))) else (some a0)) = some r := H
     have A17 := Aside0.mk A170
     clear A170
     by_cases c18 : t132 = true
     ·subst c18
      have H1 : (some (wrap32 (a0 + 32))) = some r := by rw [if_pos rfl] at H; exact H
      clear H
      have H := H1
      clear H1
      obtain rfl := Option.some.inj H
      go_enter Tryd.func63, Tryd.ntmps63
      go_wp2_with (first | ((with_reducible refine gate_callee (f := 79) rfl ?_); refine goesA (some 4) Tryd.func79 #[.int .i32 a0, .int .i32 65, .int .i32 90] ?_; (with_reducible refine (name_between.calls a0 65 90 false _ A2.out).mono ?_); rintro e w' ⟨rfl, ⟨nd, rfl⟩⟩; refine ⟨_, rfl, ?_⟩) | (go_at_call 79; (with_reducible refine (name_between.calls a0 192 222 false _ A4.out).mono ?_); rintro e w' ⟨rfl, ⟨nd, rfl⟩⟩) | (go_at_call 79; (with_reducible refine (name_between.calls a0 913 937 true _ A14.out).mono ?_); rintro e w' ⟨rfl, ⟨nd, rfl⟩⟩) | (go_at_call 79; (with_reducible refine (name_between.calls a0 1040 1071 true _ A17.out).mono ?_); rintro e w' ⟨rfl, ⟨nd, rfl⟩⟩))
      go_ret
      exact ⟨endS, drA⟩
     ·replace c18 := Bool.eq_false_iff.mpr c18
      subst c18
      have H1 : (some a0) = some r := by rw [if_neg (show ¬ (false = true) by decide)] at H; exact H
      clear H
      have H := H1
      clear H1
      obtain rfl := Option.some.inj H
      go_enter Tryd.func63, Tryd.ntmps63
      go_wp2_with (first | ((with_reducible refine gate_callee (f := 79) rfl ?_); refine goesA (some 4) Tryd.func79 #[.int .i32 a0, .int .i32 65, .int .i32 90] ?_; (with_reducible refine (name_between.calls a0 65 90 false _ A2.out).mono ?_); rintro e w' ⟨rfl, ⟨nd, rfl⟩⟩; refine ⟨_, rfl, ?_⟩) | (go_at_call 79; (with_reducible refine (name_between.calls a0 192 222 false _ A4.out).mono ?_); rintro e w' ⟨rfl, ⟨nd, rfl⟩⟩) | (go_at_call 79; (with_reducible refine (name_between.calls a0 913 937 true _ A14.out).mono ?_); rintro e w' ⟨rfl, ⟨nd, rfl⟩⟩) | (go_at_call 79; (with_reducible refine (name_between.calls a0 1040 1071 false _ A17.out).mono ?_); rintro e w' ⟨rfl, ⟨nd, rfl⟩⟩))
      go_ret
      exact ⟨endS, drA⟩
    ·rw [if_neg c16] at H
     have c16b0 : (a0 == 930) = false := beq_eq_false_iff_ne.mpr c16
     have c16b1 : (a0 != 930) = true := bne_iff_ne.mpr c16
     obtain rfl := Option.some.inj H
     go_enter Tryd.func63, Tryd.ntmps63
     go_wp2_with (first | ((with_reducible refine gate_callee (f := 79) rfl ?_); refine goesA (some 4) Tryd.func79 #[.int .i32 a0, .int .i32 65, .int .i32 90] ?_; (with_reducible refine (name_between.calls a0 65 90 false _ A2.out).mono ?_); rintro e w' ⟨rfl, ⟨nd, rfl⟩⟩; refine ⟨_, rfl, ?_⟩) | (go_at_call 79; (with_reducible refine (name_between.calls a0 192 222 false _ A4.out).mono ?_); rintro e w' ⟨rfl, ⟨nd, rfl⟩⟩) | (go_at_call 79; (with_reducible refine (name_between.calls a0 913 937 true _ A14.out).mono ?_); rintro e w' ⟨rfl, ⟨nd, rfl⟩⟩))
     go_ret
     exact ⟨endS, drA⟩
   ·replace c15 := Bool.eq_false_iff.mpr c15
    subst c15
    have H1 : ((name_between.f a0 1040 1071).bind fun t133 => (if t133 = true then (some (wrap32 (a0 + 32))) else (some a0))) = some r := by rw [if_neg (show ¬ (false = true) by decide)] at H; exact H
    clear H
    have H := H1
    clear H1
    replace H := Option.bind_eq_some_iff.mp H
    obtain ⟨t133, A190, H⟩ := H
    replace H : (if t133 = true then (some (wrap32 (a0 + 32))) else (some a0)) = some r := H
    have A19 := Aside0.mk A190
    clear A190
    by_cases c20 : t133 = true
    ·subst c20
     have H1 : (some (wrap32 (a0 + 32))) = some r := by rw [if_pos rfl] at H; exact H
     clear H
     have H := H1
     clear H1
     obtain rfl := Option.some.inj H
     go_enter Tryd.func63, Tryd.ntmps63
     go_wp2_with (first | ((with_reducible refine gate_callee (f := 79) rfl ?_); refine goesA (some 4) Tryd.func79 #[.int .i32 a0, .int .i32 65, .int .i32 90] ?_; (with_reducible refine (name_between.calls a0 65 90 false _ A2.out).mono ?_); rintro e w' ⟨rfl, ⟨nd, rfl⟩⟩; refine ⟨_, rfl, ?_⟩) | (go_at_call 79; (with_reducible refine (name_between.calls a0 192 222 false _ A4.out).mono ?_); rintro e w' ⟨rfl, ⟨nd, rfl⟩⟩) | (go_at_call 79; (with_reducible refine (name_between.calls a0 913 937 false _ A14.out).mono ?_); rintro e w' ⟨rfl, ⟨nd, rfl⟩⟩) | (go_at_call 79; (with_reducible refine (name_between.calls a0 1040 1071 true _ A19.out).mono ?_); rintro e w' ⟨rfl, ⟨nd, rfl⟩⟩))
     go_ret
     exact ⟨endS, drA⟩
    ·replace c20 := Bool.eq_false_iff.mpr c20
     subst c20
     have H1 : (some a0) = some r := by rw [if_neg (show ¬ (false = true) by decide)] at H; exact H
     clear H
     have H := H1
     clear H1
     obtain rfl := Option.some.inj H
     go_enter Tryd.func63, Tryd.ntmps63
     go_wp2_with (first | ((with_reducible refine gate_callee (f := 79) rfl ?_); refine goesA (some 4) Tryd.func79 #[.int .i32 a0, .int .i32 65, .int .i32 90] ?_; (with_reducible refine (name_between.calls a0 65 90 false _ A2.out).mono ?_); rintro e w' ⟨rfl, ⟨nd, rfl⟩⟩; refine ⟨_, rfl, ?_⟩) | (go_at_call 79; (with_reducible refine (name_between.calls a0 192 222 false _ A4.out).mono ?_); rintro e w' ⟨rfl, ⟨nd, rfl⟩⟩) | (go_at_call 79; (with_reducible refine (name_between.calls a0 913 937 false _ A14.out).mono ?_); rintro e w' ⟨rfl, ⟨nd, rfl⟩⟩) | (go_at_call 79; (with_reducible refine (name_between.calls a0 1040 1071 false _ A19.out).mono ?_); rintro e w' ⟨rfl, ⟨nd, rfl⟩⟩))
     go_ret
     exact ⟨endS, drA⟩

/-! ### name_Fold: function 48, by hand -/
theorem name_Fold.info : (Tryd.prog.info? 21).map (fun i => (i.zero, i.size, i.bytes)) = some (some (.int .i32 0), 1, 4) := by kernel_rfl
def name_Fold.go (s : ByteArray) : Nat → Nat → List Int → Option (List Int)
 | 0, _, _ => none
 | f + 1, pos, acc => if pos < s.size then (name_Small.f ((Utf8.decode s pos).1 : Int)).bind fun c => name_Fold.go s f (pos + (Utf8.decode s pos).2) (acc ++ [c]) else some acc
def name_Fold.f (a0 : ByteArray) : Option ByteArray := if a0.size ≤ 1099511627776 then (if Lib.validD a0.data.toList = true then (name_Fold.go a0 (a0.size + 1) 0 []).bind fun l => some (runesBytes l) else some a0) else none
set_option maxHeartbeats 4000000 in
set_option maxRecDepth 100000 in
theorem name_Fold.calls (a0 : ByteArray) (r : ByteArray) (w : World) (hT : Tabs w) (h : name_Fold.f a0 = some r) :
  Calls Tryd.prog 48 #[.string a0] w fun e w' => e = .returned (.string r) ∧ Below w.heap.size w w' := by
 unfold name_Fold.f at h
 split at h
 ·rename_i hs
  have cV := Tryd.utf8_ValidString a0 w (by omega) hT.u8
  by_cases hv : Lib.validD a0.data.toList = true
  ·rw [if_pos hv] at h
   obtain ⟨l, hl, h⟩ := Option.bind_eq_some_iff.1 h
   obtain rfl := Option.some.inj h
   have H := Lib.hid hl
   rw [hv] at cV
   clear h hv hl
   go_enter Tryd.func48, Tryd.ntmps48
   go_wp2_with (go_at_call 49; refine cV.mono ?_; rintro e w1 ⟨rfl, hb1⟩)
   go_loopw [3] (fun v3 wr => ∃ (pos fuel : Nat) (acc : List Int), wr.heap[w1.heap.size]? = some (.stringIter a0 pos) ∧ Kd.R (Kd.int .i32) 21 wr w.heap.size (fun k => k ≠ w1.heap.size) v3 acc ∧ Below w.heap.size w wr ∧ Hid (name_Fold.go a0 fuel pos acc = some l) ∧ acc.length ≤ pos) (fun _ wr => a0.size - wr.iterPos w1.heap.size)
   case atStart => exact ⟨0, _, [], World.iter_heap w1 a0 0, Kd.R_nil _ _ _ _ _, hb1.alloc hb1.size _, H, by simp⟩
   case round =>
    obtain ⟨pos, fuel, acc, hit, hR, hbw, HG, hal⟩ := hrel
    clear H
    have hsz : w1.heap.size < wr.heap.size := (Array.getElem?_eq_some_iff.1 hit).1
    have hsw : w.heap.size ≤ w1.heap.size := hb1.size
    cases fuel with
    | zero => exact absurd HG.out (by simp [name_Fold.go])
    | succ f =>
     have hgo := HG.out
     clear HG
     unfold name_Fold.go at hgo
     by_cases hp : pos < a0.size
     ·rw [if_pos hp] at hgo
      have hnx : ∀ ty, (Instr.next (.pointer (some ⟨w1.heap.size, 0, none⟩)) true ty).run Tryd.prog wr = _ := fun ty => Lib.run_next_any_at wr w1.heap.size a0 pos ty hit hp
      have Hwd := Lib.hid (Lib.width_pos a0 pos)
      have Hd1 := Lib.hid (decode_le a0 pos)
      have hit2 := Lib.iterAt_heap wr w1.heap.size a0 pos (pos + (Utf8.decode a0 pos).2) hit
      have hbw2 := Lib.below_iterAt hbw (k := w1.heap.size) hsw a0 (pos + (Utf8.decode a0 pos).2)
      have hR2 : Kd.R (Kd.int .i32) 21 (wr.iterAt w1.heap.size a0 (pos + (Utf8.decode a0 pos).2)) w.heap.size (fun k => k ≠ w1.heap.size) u3 acc := Kd.R_move hR (fun k hk => Lib.iterAt_other wr w1.heap.size k a0 _ hk)
      obtain ⟨c, hc, hgo⟩ := Option.bind_eq_some_iff.1 hgo
      have cS := fun W => name_Small.calls ((Utf8.decode a0 pos).1 : Int) c W hc
      generalize hq : (((Utf8.decode a0 pos).1 : Nat) : Int) = q at cS hnx
      have HE := Lib.hid hgo
      have hz2 : w1.heap.size < (wr.iterAt w1.heap.size a0 (pos + (Utf8.decode a0 pos).2)).heap.size := by rw [Lib.iterAt_size]; exact hsz
      have Hit := Lib.hid hit
      have HL := Lib.hid (show (acc.length + 1) * 4 ≤ 140737488355328 by omega)
      have HA := Lib.hid hal
      clear hgo hc hq hit hbw hR hal
      go_wp2_with (first | (go_at_call 63; refine (cS _).mono ?_; rintro e w2 ⟨rfl, ⟨nd, rfl⟩⟩) | ((with_reducible refine gate_builtin (b := .append) (xs := #[.tmp 15, .tmp 18]) rfl ?_); at_builtin; refine Kd.R_append (Kd.int .i32) (w0 := w) w.heap.size rfl (.tmp 15) (.tmp 18) 80 21 (.int .i32 0) 4 rfl Tryd.underlying80 name_Fold.info rfl (by decide) (by omega) u3 acc c [.int .i32 c] (fun k => k ≠ w1.heap.size) (fun _ => False) rfl (by first | (go_simp; done) | (go_simp; rfl)) rfl (fun _ hk => hk.elim) ?aF ?aO ?aB ?aS HL.out ?_; (case aF => (intro k hk he; rw [he] at hk; exact absurd (Nat.lt_of_lt_of_le hz2 hk) (Nat.lt_irrefl _))); (case aB => (repeat (first | exact hbw2 | apply pw_below_drewN))); (case aO => ((with_reducible repeat (first | apply Kd.R_alloc | apply Kd.R_drewN | apply Kd.R_drew)); exact hR2)); (case aS => exact hbw2.size); intro v4 w4 ho hb hg hat; have hit3 := blk_grown (show ((wr.iterAt w1.heap.size a0 (pos + (Utf8.decode a0 pos).2)).drewN nd).heap[w1.heap.size]? = _ from hit2) hg (fun e => hR2.1 _ e.symm rfl)))
      go_roundw
      case rel =>
       refine ⟨_, f, acc ++ [c], hit3, ho, hb, HE, ?_⟩
       have := HA.out
       have := Hwd.out
       rw [List.length_append]
       show acc.length + 1 ≤ _
       omega
      case measure =>
       have hwd := Hwd.out
       have hd1 := Hd1.out
       simp only [World.iterPos, hit3, Hit.out]
       omega
     ·rw [if_neg hp] at hgo
      obtain rfl := Option.some.inj hgo
      clear hal
      have hnx : ∀ ty, (Instr.next (.pointer (some ⟨w1.heap.size, 0, none⟩)) true ty).run Tryd.prog wr = _ := fun ty => Lib.run_next_end_at wr w1.heap.size a0 pos ty hit hp
      have hcv := own_runes (P := Tryd.prog) Tryd.underlying80 Tryd.underlying21 Tryd.underlying9 (Kd.own_of_R hR)
      go_wp2
      go_ret
      exact ⟨rfl, hbw⟩
  ·rw [if_neg hv] at h
   obtain rfl := Option.some.inj h
   rw [Bool.eq_false_iff.2 hv] at cV
   clear hv
   go_enter Tryd.func48, Tryd.ntmps48
   go_wp2_with (go_at_call 49; refine cV.mono ?_; rintro e w1 ⟨rfl, hb1⟩)
   go_ret
   exact ⟨rfl, hb1⟩
 ·cases h

/-! ### cmp_isNaN_rune: function 80 -/
def cmp_isNaN_rune.f (a0 : Int) : Option (Bool) := some (a0 != a0)
set_option maxHeartbeats 8000000 in
set_option maxRecDepth 100000 in
theorem cmp_isNaN_rune.calls (a0 : Int) (r : Bool) (w : World) (h : cmp_isNaN_rune.f a0 = some r) :
  Calls Tryd.prog 80 #[.int .i32 a0] w fun e w' => e = .returned (.bool r) ∧ Drawn0 w w' := by
 have H : (some (a0 != a0)) = some r := h
 clear h
 obtain rfl := Option.some.inj H
 go_enter Tryd.func80, Tryd.ntmps80
 go_wp2
 go_ret
 exact ⟨endS, drA⟩

/-! ### cmp_Compare_rune: function 66 -/
def cmp_Compare_rune.f (a0 : Int) (a1 : Int) : Option (Int) := (cmp_isNaN_rune.f a0).bind fun t134 => ((cmp_isNaN_rune.f a1).bind fun t135 => (if t134 = true then (if t135 = true then (some 0) else (some (-1))) else (if t135 = true then (some 1) else (if a0 < a1 then (some (-1)) else (if a0 > a1 then (some 1) else (some 0))))))
set_option maxHeartbeats 8000000 in
set_option maxRecDepth 100000 in
theorem cmp_Compare_rune.calls (a0 : Int) (a1 : Int) (r : Int) (w : World) (h : cmp_Compare_rune.f a0 a1 = some r) :
  Calls Tryd.prog 66 #[.int .i32 a0, .int .i32 a1] w fun e w' => e = .returned (.int .i64 r) ∧ Drawn0 w w' := by
 have H : ((cmp_isNaN_rune.f a0).bind fun t134 => ((cmp_isNaN_rune.f a1).bind fun t135 => (if t134 = true then (if t135 = true then (some 0) else (some (-1))) else (if t135 = true then (some 1) else (if a0 < a1 then (some (-1)) else (if a0 > a1 then (some 1) else (some 0))))))) = some r := h
 clear h
 replace H := Option.bind_eq_some_iff.mp H
 obtain ⟨t134, A30, H⟩ := H
 replace H : ((cmp_isNaN_rune.f a1).bind fun t135 => (if t134 = true then (if t135 = true then (some 0) else (some (-1))) else (if t135 = true then (some 1) else (if a0 < a1 then (some (-1)) else (if a0 > a1 then (some 1) else (some 0)))))) = some r := H
 have A3 := Aside0.mk A30
 clear A30
 replace H := Option.bind_eq_some_iff.mp H
 obtain ⟨t135, A40, H⟩ := H
 replace H : (if t134 = true then (if t135 = true then (some 0) else (some (-1))) else (if t135 = true then (some 1) else (if a0 < a1 then (some (-1)) else (if a0 > a1 then (some 1) else (some 0))))) = some r := H
 have A4 := Aside0.mk A40
 clear A40
 by_cases c5 : t134 = true
 ·subst c5
  have H1 : (if t135 = true then (some 0) else (some (-1))) = some r := by rw [if_pos rfl] at H; exact H
  clear H
  have H := H1
  clear H1
  by_cases c6 : t135 = true
  ·subst c6
   have H1 : (some 0) = some r := by rw [if_pos rfl] at H; exact H
   clear H
   have H := H1
   clear H1
   obtain rfl := Option.some.inj H
   go_enter Tryd.func66, Tryd.ntmps66
   go_wp2_with (first | ((with_reducible refine gate_callee (f := 80) rfl ?_); refine goesA (some 8) Tryd.func80 #[.int .i32 a0] ?_; (with_reducible refine (cmp_isNaN_rune.calls a0 true _ A3.out).mono ?_); rintro e w' ⟨rfl, ⟨nd, rfl⟩⟩; refine ⟨_, rfl, ?_⟩) | ((with_reducible refine gate_callee (f := 80) rfl ?_); refine goesA (some 10) Tryd.func80 #[.int .i32 a1] ?_; (with_reducible refine (cmp_isNaN_rune.calls a1 true _ A4.out).mono ?_); rintro e w' ⟨rfl, ⟨nd, rfl⟩⟩; refine ⟨_, rfl, ?_⟩))
   go_ret
   exact ⟨endS, drA⟩
  ·replace c6 := Bool.eq_false_iff.mpr c6
   subst c6
   have H1 : (some (-1)) = some r := by rw [if_neg (show ¬ (false = true) by decide)] at H; exact H
   clear H
   have H := H1
   clear H1
   obtain rfl := Option.some.inj H
   go_enter Tryd.func66, Tryd.ntmps66
   go_wp2_with (first | ((with_reducible refine gate_callee (f := 80) rfl ?_); refine goesA (some 8) Tryd.func80 #[.int .i32 a0] ?_; (with_reducible refine (cmp_isNaN_rune.calls a0 true _ A3.out).mono ?_); rintro e w' ⟨rfl, ⟨nd, rfl⟩⟩; refine ⟨_, rfl, ?_⟩) | ((with_reducible refine gate_callee (f := 80) rfl ?_); refine goesA (some 10) Tryd.func80 #[.int .i32 a1] ?_; (with_reducible refine (cmp_isNaN_rune.calls a1 false _ A4.out).mono ?_); rintro e w' ⟨rfl, ⟨nd, rfl⟩⟩; refine ⟨_, rfl, ?_⟩))
   go_ret
   exact ⟨endS, drA⟩
 ·replace c5 := Bool.eq_false_iff.mpr c5
  subst c5
  have H1 : (if t135 = true then (some 1) else (if a0 < a1 then (some (-1)) else (if a0 > a1 then (some 1) else (some 0)))) = some r := by rw [if_neg (show ¬ (false = true) by decide)] at H; exact H
  clear H
  have H := H1
  clear H1
  by_cases c7 : t135 = true
  ·subst c7
   have H1 : (some 1) = some r := by rw [if_pos rfl] at H; exact H
   clear H
   have H := H1
   clear H1
   obtain rfl := Option.some.inj H
   go_enter Tryd.func66, Tryd.ntmps66
   go_wp2_with (first | ((with_reducible refine gate_callee (f := 80) rfl ?_); refine goesA (some 8) Tryd.func80 #[.int .i32 a0] ?_; (with_reducible refine (cmp_isNaN_rune.calls a0 false _ A3.out).mono ?_); rintro e w' ⟨rfl, ⟨nd, rfl⟩⟩; refine ⟨_, rfl, ?_⟩) | ((with_reducible refine gate_callee (f := 80) rfl ?_); refine goesA (some 10) Tryd.func80 #[.int .i32 a1] ?_; (with_reducible refine (cmp_isNaN_rune.calls a1 true _ A4.out).mono ?_); rintro e w' ⟨rfl, ⟨nd, rfl⟩⟩; refine ⟨_, rfl, ?_⟩))
   go_ret
   exact ⟨endS, drA⟩
  ·replace c7 := Bool.eq_false_iff.mpr c7
   subst c7
   have H1 : (if a0 < a1 then (some (-1)) else (if a0 > a1 then (some 1) else (some 0))) = some r := by rw [if_neg (show ¬ (false = true) by decide)] at H; exact H
   clear H
   have H := H1
   clear H1
   by_cases c8 : a0 < a1
   ·rw [if_pos c8] at H
    have c8b0 : decide (a0 < a1) = true := decide_eq_true c8
    clear c8
    obtain rfl := Option.some.inj H
    go_enter Tryd.func66, Tryd.ntmps66
    go_wp2_with (first | ((with_reducible refine gate_callee (f := 80) rfl ?_); refine goesA (some 8) Tryd.func80 #[.int .i32 a0] ?_; (with_reducible refine (cmp_isNaN_rune.calls a0 false _ A3.out).mono ?_); rintro e w' ⟨rfl, ⟨nd, rfl⟩⟩; refine ⟨_, rfl, ?_⟩) | ((with_reducible refine gate_callee (f := 80) rfl ?_); refine goesA (some 10) Tryd.func80 #[.int .i32 a1] ?_; (with_reducible refine (cmp_isNaN_rune.calls a1 false _ A4.out).mono ?_); rintro e w' ⟨rfl, ⟨nd, rfl⟩⟩; refine ⟨_, rfl, ?_⟩))
    go_ret
    exact ⟨endS, drA⟩
   ·rw [if_neg c8] at H
    have c8b0 : decide (a0 < a1) = false := decide_eq_false c8
    clear c8
    by_cases c9 : a0 > a1
    ·rw [if_pos c9] at H
     have c9b0 : decide (a1 < a0) = true := decide_eq_true c9
     clear c9
     obtain rfl := Option.some.inj H
     go_enter Tryd.func66, Tryd.ntmps66
     go_wp2_with (first | ((with_reducible refine gate_callee (f := 80) rfl ?_); refine goesA (some 8) Tryd.func80 #[.int .i32 a0] ?_; (with_reducible refine (cmp_isNaN_rune.calls a0 false _ A3.out).mono ?_); rintro e w' ⟨rfl, ⟨nd, rfl⟩⟩; refine ⟨_, rfl, ?_⟩) | ((with_reducible refine gate_callee (f := 80) rfl ?_); refine goesA (some 10) Tryd.func80 #[.int .i32 a1] ?_; (with_reducible refine (cmp_isNaN_rune.calls a1 false _ A4.out).mono ?_); rintro e w' ⟨rfl, ⟨nd, rfl⟩⟩; refine ⟨_, rfl, ?_⟩))
     go_ret
     exact ⟨endS, drA⟩
    ·rw [if_neg c9] at H
     have c9b0 : decide (a1 < a0) = false := decide_eq_false c9
     clear c9
     obtain rfl := Option.some.inj H
     go_enter Tryd.func66, Tryd.ntmps66
     go_wp2_with (first | ((with_reducible refine gate_callee (f := 80) rfl ?_); refine goesA (some 8) Tryd.func80 #[.int .i32 a0] ?_; (with_reducible refine (cmp_isNaN_rune.calls a0 false _ A3.out).mono ?_); rintro e w' ⟨rfl, ⟨nd, rfl⟩⟩; refine ⟨_, rfl, ?_⟩) | ((with_reducible refine gate_callee (f := 80) rfl ?_); refine goesA (some 10) Tryd.func80 #[.int .i32 a1] ?_; (with_reducible refine (cmp_isNaN_rune.calls a1 false _ A4.out).mono ?_); rintro e w' ⟨rfl, ⟨nd, rfl⟩⟩; refine ⟨_, rfl, ?_⟩))
     go_ret
     exact ⟨endS, drA⟩

/-! ### slices_Compare_rune_rune: function 51 -/
def slices_Compare_rune_rune.l0 : Nat → List Int → List Int → List Int → Int → Int → Option (Int)
 | 0, _, _, _, _, _ => none
 | k + 1, x0, x1, x9, x10, x11 => if x11 < x10 then (if 0 ≤ x11 then (if x11 < (x9.length : Int) then (if x11 ≥ (x1.length : Int) then (some 1) else (if x11 < (x1.length : Int) then ((cmp_Compare_rune.f (rd x9 x11) (rd x1 x11)).bind fun t138 => (if t138 = 0 then (slices_Compare_rune_rune.l0 k x0 x1 x9 x10 (wrap64 (x11 + 1))) else (some t138))) else (none))) else (none)) else (none)) else (if (x0.length : Int) < (x1.length : Int) then (some (-1)) else (some 0))
def slices_Compare_rune_rune.f (k : Nat) (l0 : List Int) (l1 : List Int) : Option (Int) := slices_Compare_rune_rune.l0 k l0 l1 l0 (l0.length : Int) 0
theorem slices_Compare_rune_rune.mono_l : ∀ k, (∀ y0 y1 y2 y3 y4, LeO (slices_Compare_rune_rune.l0 k y0 y1 y2 y3 y4) (slices_Compare_rune_rune.l0 (k + 1) y0 y1 y2 y3 y4))
 | 0 => fun _ _ _ _ _ r h => by simp [slices_Compare_rune_rune.l0] at h
 | k + 1 => by
  have ih0 := slices_Compare_rune_rune.mono_l k
  ·intro y0 y1 y2 y3 y4
   unfold slices_Compare_rune_rune.l0
   repeat' first
   | (with_reducible exact ih0 _ _ _ _ _)
   | (with_reducible exact LeO.refl _)
   | (with_reducible exact LeO.none _)
   | (with_reducible refine LeO.ite ?_ ?_)
   | (with_reducible refine LeO.bind ?_ (fun _ => ?_))
   | exact ih0 _ _ _ _ _
   | exact LeO.none _
   | refine LeO.ite ?_ ?_
   | refine LeO.bind ?_ (fun _ => ?_)
theorem slices_Compare_rune_rune.mono : ∀ a0 a1 k, LeO (slices_Compare_rune_rune.f k a0 a1) (slices_Compare_rune_rune.f (k + 1) a0 a1) := by
 intro a0 a1 k
 have ih0 := slices_Compare_rune_rune.mono_l k
 unfold slices_Compare_rune_rune.f
 repeat' first
   | (with_reducible exact ih0 _ _ _ _ _)
   | (with_reducible exact LeO.refl _)
   | (with_reducible exact LeO.none _)
   | (with_reducible refine LeO.ite ?_ ?_)
   | (with_reducible refine LeO.bind ?_ (fun _ => ?_))
   | exact ih0 _ _ _ _ _
   | exact LeO.none _
   | refine LeO.ite ?_ ?_
   | refine LeO.bind ?_ (fun _ => ?_)
set_option maxHeartbeats 8000000 in
set_option maxRecDepth 100000 in
theorem slices_Compare_rune_rune.calls (k : Nat) (A0 : Option Addr) (c0 : Nat) (l0 : List Int) (A1 : Option Addr) (c1 : Nat) (l1 : List Int) (r : Int) (w : World) (hr0 : Kd.C (Kd.int .i32) w A0 l0.length l0) (hc0 : l0.length ≤ c0) (hr1 : Kd.C (Kd.int .i32) w A1 l1.length l1) (hc1 : l1.length ≤ c1) (h : slices_Compare_rune_rune.f k l0 l1 = some r) :
  Calls Tryd.prog 51 #[.slice A0 l0.length c0, .slice A1 l1.length c1] w fun e w' => e = .returned (.int .i64 r) ∧ Drawn0 w w' := by
 have HR0 := Aside0.mk hr0
 have HC0 := Aside0.mk hc0
 clear hr0 hc0
 have HR1 := Aside0.mk hr1
 have HC1 := Aside0.mk hc1
 clear hr1 hc1
 have H : (slices_Compare_rune_rune.l0 k l0 l1 l0 (l0.length : Int) 0) = some r := h
 clear h
 have H' := Aside0.mk H
 clear H
 go_enter Tryd.func51, Tryd.ntmps51
 go_wp2
 go_loopg [11] k (fun kq v11 w' => ∃ (x11_1 : Int), v11 = .int .i64 x11_1 ∧ Aside0 (slices_Compare_rune_rune.l0 kq l0 l1 l0 (l0.length : Int) x11_1 = some r) ∧ Aside0 (kq ≤ k) ∧ Drawn0 w w')
 case atStart => exact ⟨(0), (endS), H', ⟨Nat.le_refl _⟩, drA⟩
 case round =>
  clear H'
  try clear c1
  try clear p2
  obtain ⟨x11_1, rfl, HA, HK1, ⟨m1, rfl⟩⟩ := hrel
  cases gk with
  | zero => exact absurd HA.out (by simp [slices_Compare_rune_rune.l0])
  | succ k1 =>
   have H := HA.out
   clear HA
   simp only [slices_Compare_rune_rune.l0] at H
   by_cases c3 : x11_1 < (l0.length : Int)
   ·rw [if_pos c3] at H
    have c3b0 : decide (x11_1 < (l0.length : Int)) = true := decide_eq_true c3
    clear c3
    by_cases c4 : 0 ≤ x11_1
    ·rw [if_pos c4] at H
     have c4b0 : decide (0 ≤ x11_1) = true := decide_eq_true c4
     clear c4
     by_cases c5 : x11_1 < (l0.length : Int)
     ·rw [if_pos c5] at H
      have c5b0 : decide (x11_1 < (l0.length : Int)) = true := decide_eq_true c5
      clear c5
      by_cases c6 : x11_1 ≥ (l1.length : Int)
      ·rw [if_pos c6] at H
       have c6b0 : decide ((l1.length : Int) ≤ x11_1) = true := decide_eq_true c6
       clear c6
       obtain rfl := Option.some.inj H
       have p136 : 0 ≤ (x11_1 : Int) := odA
       have q136 : x11_1 < (l0.length : Int) := odA
       obtain ⟨ad136, e136, hx136_0⟩ := Kd.at_int HR0.out x11_1 p136 q136
       cases e136
       replace p136 := eq_true p136
       replace q136 := eq_true q136
       go_wp2
       go_ret
       exact ⟨endS, drA⟩
      ·rw [if_neg c6] at H
       have c6b0 : decide ((l1.length : Int) ≤ x11_1) = false := decide_eq_false c6
       clear c6
       by_cases c7 : x11_1 < (l1.length : Int)
       ·rw [if_pos c7] at H
        have c7b0 : decide (x11_1 < (l1.length : Int)) = true := decide_eq_true c7
        clear c7
        replace H := Option.bind_eq_some_iff.mp H
        obtain ⟨t138, A80, H⟩ := H
        replace H : (if t138 = 0 then (slices_Compare_rune_rune.l0 k1 l0 l1 l0 (l0.length : Int) (wrap64 (x11_1 + 1))) else (some t138)) = some r := H
        have A8 := Aside0.mk A80
        clear A80
        by_cases c9 : t138 = 0
        ·rw [if_pos c9] at H
         have c9b0 : (t138 == 0) = true := beq_iff_eq.mpr c9
         have c9b1 : (t138 != 0) = false := bne_eq_false_iff_eq.mpr c9
         clear c9
         have H' := Aside0.mk H
         clear H
         have p136 : 0 ≤ (x11_1 : Int) := odA
         have q136 : x11_1 < (l0.length : Int) := odA
         obtain ⟨ad136, e136, hx136_0⟩ := Kd.at_int HR0.out x11_1 p136 q136
         cases e136
         replace p136 := eq_true p136
         replace q136 := eq_true q136
         have p137 : 0 ≤ (x11_1 : Int) := odA
         have q137 : x11_1 < (l1.length : Int) := odA
         obtain ⟨ad137, e137, hx137_0⟩ := Kd.at_int HR1.out x11_1 p137 q137
         cases e137
         replace p137 := eq_true p137
         replace q137 := eq_true q137
         go_wp2_with (first | ((with_reducible refine gate_callee (f := 66) rfl ?_); refine goesA (some 26) Tryd.func66 #[.int .i32 (rd l0 x11_1), .int .i32 (rd l1 x11_1)] ?_; (with_reducible refine (cmp_Compare_rune.calls (rd l0 x11_1) (rd l1 x11_1) t138 _ A8.out).mono ?_); rintro e w' ⟨rfl, ⟨nd, rfl⟩⟩; refine ⟨_, rfl, ?_⟩))
         go_roundg k1
         case measure => have := HK1.out; omega
         case rel => exact ⟨(wrap64 (x11_1 + 1)), (endS), H', ⟨by have := HK1.out; omega⟩, drA⟩
        ·rw [if_neg c9] at H
         have c9b0 : (t138 == 0) = false := beq_eq_false_iff_ne.mpr c9
         have c9b1 : (t138 != 0) = true := bne_iff_ne.mpr c9
         obtain rfl := Option.some.inj H
         have p136 : 0 ≤ (x11_1 : Int) := odA
         have q136 : x11_1 < (l0.length : Int) := odA
         obtain ⟨ad136, e136, hx136_0⟩ := Kd.at_int HR0.out x11_1 p136 q136
         cases e136
         replace p136 := eq_true p136
         replace q136 := eq_true q136
         have p137 : 0 ≤ (x11_1 : Int) := odA
         have q137 : x11_1 < (l1.length : Int) := odA
         obtain ⟨ad137, e137, hx137_0⟩ := Kd.at_int HR1.out x11_1 p137 q137
         cases e137
         replace p137 := eq_true p137
         replace q137 := eq_true q137
         go_wp2_with (first | ((with_reducible refine gate_callee (f := 66) rfl ?_); refine goesA (some 26) Tryd.func66 #[.int .i32 (rd l0 x11_1), .int .i32 (rd l1 x11_1)] ?_; (with_reducible refine (cmp_Compare_rune.calls (rd l0 x11_1) (rd l1 x11_1) t138 _ A8.out).mono ?_); rintro e w' ⟨rfl, ⟨nd, rfl⟩⟩; refine ⟨_, rfl, ?_⟩))
         go_ret
         exact ⟨endS, drA⟩
       ·rw [if_neg c7] at H
        exact absurd H (by simp)
     ·rw [if_neg c5] at H
      exact absurd H (by simp)
    ·rw [if_neg c4] at H
     exact absurd H (by simp)
   ·rw [if_neg c3] at H
    have c3b0 : decide (x11_1 < (l0.length : Int)) = false := decide_eq_false c3
    clear c3
    by_cases c10 : (l0.length : Int) < (l1.length : Int)
    ·rw [if_pos c10] at H
     have c10b0 : decide ((l0.length : Int) < (l1.length : Int)) = true := decide_eq_true c10
     have c10b1 : decide (l0.length < l1.length) = true := decide_eq_true (Int.ofNat_lt.mp c10)
     clear c10
     obtain rfl := Option.some.inj H
     go_wp2
     go_ret
     exact ⟨endS, drA⟩
    ·rw [if_neg c10] at H
     have c10b0 : decide ((l0.length : Int) < (l1.length : Int)) = false := decide_eq_false c10
     have c10b1 : decide (l0.length < l1.length) = false := decide_eq_false (fun h => c10 (Int.ofNat_lt.mpr h))
     clear c10
     obtain rfl := Option.some.inj H
     go_wp2
     go_ret
     exact ⟨endS, drA⟩

end Go.Proofs.YtbbfggfiknbdmaaDoor.A
