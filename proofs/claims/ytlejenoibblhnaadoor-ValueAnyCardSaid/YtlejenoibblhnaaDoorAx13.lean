-- By drv.py, the session's own driver round the kit's print: the machine's side of the laws, function by function. Not trusted: Lean checks it.
import Derived.Test.YtlejenoibblhnaaDoorAx0
namespace Go.Proofs.YtlejenoibblhnaaDoor.A
open Go.RowKit Go.Proofs.YtlejenoibblhnaaDoorW.PrintWords Go.Proofs.YtlejenoibblhnaaDoorW.PrintLast Go.Proofs.YtlejenoibblhnaaDoorW.PrintMore
attribute [local go_sem] max2_int min2_int max_two min_two max_three min_three max_four min_four   -- for this text's walks alone
set_option linter.unusedVariables false
set_option linter.unusedSimpArgs false

/-! ### caduceusref02_tail: function 48 -/
def caduceusref02_tail.f (a0 : ByteArray) (a1 : Int) : Option (Bool) := if a1 < (a0.size : Int) then (if 0 ≤ a1 then (if (bt a0 a1) ≥ 128 then (some (decide ((bt a0 a1) < 192))) else (some false)) else (none)) else (some false)
set_option maxHeartbeats 8000000 in
set_option maxRecDepth 100000 in
theorem caduceusref02_tail.calls (a0 : ByteArray) (a1 : Int) (r : Bool) (w : World) (h : caduceusref02_tail.f a0 a1 = some r) :
  Calls Tryd.prog 48 #[.string a0, .int .i64 a1] w fun e w' => e = .returned (.bool r) ∧ Drawn0 w w' := by
 unfold caduceusref02_tail.f at h
 have H := h
 clear h
 revert H; refine itR ?L3p ?L3n
 case' L3p =>
  intro c3 H
  have c3b0 := decide_eq_true c3
  clear c3
  replace H := itN H
  obtain ⟨c4, H⟩ := H
  have c4b0 := decide_eq_true c4
  clear c4
  revert H; refine itR ?L4p ?L4n
  case' L4p =>
   intro c6 H
   have c6b0 := geT c6
   clear c6
   obtain rfl := Option.some.inj H
   have M1 := True.intro
  case' L4n =>
   intro c6 H
   have c6b0 := geF c6
   clear c6
   obtain rfl := Option.some.inj H
   have M2 := True.intro
 case' L3n =>
  intro c3 H
  have c3b0 := decide_eq_false c3
  clear c3
  obtain rfl := Option.some.inj H
  go_enter Tryd.func48, Tryd.ntmps48
  go_wp2
  go_ret
  exact ⟨endS, drA⟩
 all_goals
  case _ =>
   have p5 : 0 ≤ (a1 : Int) := odA
   have q5 : a1 < (a0.size : Int) := odA
   have hx5 := bt_at a0 a1
   replace p5 := eq_true p5
   replace q5 := eq_true q5
   first
    | clear M1
      have p7 : 0 ≤ (a1 : Int) := odA
      have q7 : a1 < (a0.size : Int) := odA
      have hx7 := bt_at a0 a1
      replace p7 := eq_true p7
      replace q7 := eq_true q7
      go_enter Tryd.func48, Tryd.ntmps48
      go_wp2
      go_ret
      exact ⟨endS, drA⟩
    | clear M2
      go_enter Tryd.func48, Tryd.ntmps48
      go_wp2
      go_ret
      exact ⟨endS, drA⟩
end Go.Proofs.YtlejenoibblhnaaDoor.A
