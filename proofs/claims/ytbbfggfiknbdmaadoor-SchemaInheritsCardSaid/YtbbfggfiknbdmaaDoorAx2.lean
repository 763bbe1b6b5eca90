-- By drv.py, the session's own driver round the kit's print: the machine's side of the laws, function by function. Not trusted: Lean checks it.
import Derived.Test.YtbbfggfiknbdmaaDoorAx0
namespace Go.Proofs.YtbbfggfiknbdmaaDoor.A
open Go.RowKit Go.Proofs.YtbbfggfiknbdmaaDoorW.PrintWords Go.Proofs.YtbbfggfiknbdmaaDoorW.PrintLast Go.Proofs.YtbbfggfiknbdmaaDoorW.PrintMore
attribute [local go_sem] max2_int min2_int max_two min_two max_three min_three max_four min_four   -- for this text's walks alone
set_option linter.unusedVariables false
set_option linter.unusedSimpArgs false

/-! ### caduceuslaw04_Few: function 4 -/
def caduceuslaw04_Few.l0 : Nat → List (S35) → Int → Option (Bool)
 | 0, _, _ => none
 | k + 1, x0, x3 => if x3 < (x0.length : Int) then (if x3 > 40 then (some false) else (if 0 ≤ x3 then (if (((rd_T35 x0 x3).f0).size : Int) > 200 then (some false) else (caduceuslaw04_Few.l0 k x0 (wrap64 (x3 + 1)))) else (none))) else (some true)
def caduceuslaw04_Few.f (k : Nat) (l0 : List (S35)) : Option (Bool) := caduceuslaw04_Few.l0 k l0 0
theorem caduceuslaw04_Few.mono_l : ∀ k, (∀ y0 y1, LeO (caduceuslaw04_Few.l0 k y0 y1) (caduceuslaw04_Few.l0 (k + 1) y0 y1))
 | 0 => fun _ _ r h => by simp [caduceuslaw04_Few.l0] at h
 | k + 1 => by
  have ih0 := caduceuslaw04_Few.mono_l k
  ·intro y0 y1
   unfold caduceuslaw04_Few.l0
   repeat' first
   | (with_reducible exact ih0 _ _)
   | (with_reducible exact LeO.refl _)
   | (with_reducible exact LeO.none _)
   | (with_reducible refine LeO.ite ?_ ?_)
   | (with_reducible refine LeO.bind ?_ (fun _ => ?_))
   | exact ih0 _ _
   | exact LeO.none _
   | refine LeO.ite ?_ ?_
   | refine LeO.bind ?_ (fun _ => ?_)
theorem caduceuslaw04_Few.mono : ∀ a0 k, LeO (caduceuslaw04_Few.f k a0) (caduceuslaw04_Few.f (k + 1) a0) := by
 intro a0 k
 have ih0 := caduceuslaw04_Few.mono_l k
 unfold caduceuslaw04_Few.f
 repeat' first
   | (with_reducible exact ih0 _ _)
   | (with_reducible exact LeO.refl _)
   | (with_reducible exact LeO.none _)
   | (with_reducible refine LeO.ite ?_ ?_)
   | (with_reducible refine LeO.bind ?_ (fun _ => ?_))
   | exact ih0 _ _
   | exact LeO.none _
   | refine LeO.ite ?_ ?_
   | refine LeO.bind ?_ (fun _ => ?_)
set_option maxHeartbeats 8000000 in
set_option maxRecDepth 100000 in
theorem caduceuslaw04_Few.calls (k : Nat) (A0 : Option Addr) (c0 : Nat) (l0 : List (S35)) (r : Bool) (w : World) (hr0 : Kd.C k35 w A0 l0.length l0) (hc0 : l0.length ≤ c0) (h : caduceuslaw04_Few.f k l0 = some r) :
  Calls Tryd.prog 4 #[.slice A0 l0.length c0] w fun e w' => e = .returned (.bool r) ∧ Drawn0 w w' := by
 have HR0 := Aside0.mk hr0
 have HC0 := Aside0.mk hc0
 clear hr0 hc0
 have H : (caduceuslaw04_Few.l0 k l0 0) = some r := h
 clear h
 have H' := Aside0.mk H
 clear H
 go_enter Tryd.func4, Tryd.ntmps4
 go_wp2
 go_loopg [3] k (fun kq v3 w' => ∃ (x3_1 : Int), v3 = .int .i64 x3_1 ∧ Aside0 (caduceuslaw04_Few.l0 kq l0 x3_1 = some r) ∧ Aside0 (kq ≤ k) ∧ Drawn0 w w')
 case atStart => exact ⟨(0), (endS), H', ⟨Nat.le_refl _⟩, drA⟩
 case round =>
  clear H'
  obtain ⟨x3_1, rfl, HA, HK1, ⟨m1, rfl⟩⟩ := hrel
  cases gk with
  | zero => exact absurd HA.out (by simp [caduceuslaw04_Few.l0])
  | succ k1 =>
   have H := HA.out
   clear HA
   simp only [caduceuslaw04_Few.l0] at H
   by_cases c2 : x3_1 < (l0.length : Int)
   ·rw [if_pos c2] at H
    have c2b0 : decide (x3_1 < (l0.length : Int)) = true := decide_eq_true c2
    clear c2
    by_cases c3 : x3_1 > 40
    ·rw [if_pos c3] at H
     have c3b0 : decide (40 < x3_1) = true := decide_eq_true c3
     clear c3
     obtain rfl := Option.some.inj H
     go_wp2
     go_ret
     exact ⟨endS, drA⟩
    ·rw [if_neg c3] at H
     have c3b0 : decide (40 < x3_1) = false := decide_eq_false c3
     clear c3
     by_cases c4 : 0 ≤ x3_1
     ·rw [if_pos c4] at H
      have c4b0 : decide (0 ≤ x3_1) = true := decide_eq_true c4
      clear c4
      by_cases c5 : (((rd_T35 l0 x3_1).f0).size : Int) > 200
      ·rw [if_pos c5] at H
       have c5b0 : decide (200 < (((rd_T35 l0 x3_1).f0).size : Int)) = true := decide_eq_true c5
       have c5b1 : decide (200 < ((rd_T35 l0 x3_1).f0).size) = true := decide_eq_true (by omega)
       clear c5
       obtain rfl := Option.some.inj H
       have p101 : 0 ≤ (x3_1 : Int) := odA
       have q101 : x3_1 < (l0.length : Int) := odA
       obtain ⟨ad101, e101, hx101_0, hx101_1, hx101_2⟩ := at_T35 HR0.out x3_1 p101 q101
       cases e101
       replace p101 := eq_true p101
       replace q101 := eq_true q101
       go_wp2
       go_ret
       exact ⟨endS, drA⟩
      ·rw [if_neg c5] at H
       have c5b0 : decide (200 < (((rd_T35 l0 x3_1).f0).size : Int)) = false := decide_eq_false c5
       have c5b1 : decide (200 < ((rd_T35 l0 x3_1).f0).size) = false := decide_eq_false (by omega)
       clear c5
       have H' := Aside0.mk H
       clear H
       have p101 : 0 ≤ (x3_1 : Int) := odA
       have q101 : x3_1 < (l0.length : Int) := odA
       obtain ⟨ad101, e101, hx101_0, hx101_1, hx101_2⟩ := at_T35 HR0.out x3_1 p101 q101
       cases e101
       replace p101 := eq_true p101
       replace q101 := eq_true q101
       go_wp2
       go_roundg k1
       case measure => have := HK1.out; omega
       case rel => exact ⟨(wrap64 (x3_1 + 1)), (endS), H', ⟨by have := HK1.out; omega⟩, drA⟩
     ·rw [if_neg c4] at H
      exact absurd H (by simp)
   ·rw [if_neg c2] at H
    have c2b0 : decide (x3_1 < (l0.length : Int)) = false := decide_eq_false c2
    clear c2
    obtain rfl := Option.some.inj H
    go_wp2
    go_ret
    exact ⟨endS, drA⟩

/-! ### caduceuslaw04_FewAttrs: function 5 -/
def caduceuslaw04_FewAttrs.l0 : Nat → List (S41) → Int → Option (Bool)
 | 0, _, _ => none
 | k + 1, x0, x3 => if x3 < (x0.length : Int) then (if x3 > 40 then (some false) else (if 0 ≤ x3 then (if (((rd_T41 x0 x3).f0).size : Int) > 200 then (some false) else (if (((rd_T41 x0 x3).f1.f2).size : Int) > 500 then (some false) else (caduceuslaw04_FewAttrs.l0 k x0 (wrap64 (x3 + 1))))) else (none))) else (some true)
def caduceuslaw04_FewAttrs.f (k : Nat) (l0 : List (S41)) : Option (Bool) := caduceuslaw04_FewAttrs.l0 k l0 0
theorem caduceuslaw04_FewAttrs.mono_l : ∀ k, (∀ y0 y1, LeO (caduceuslaw04_FewAttrs.l0 k y0 y1) (caduceuslaw04_FewAttrs.l0 (k + 1) y0 y1))
 | 0 => fun _ _ r h => by simp [caduceuslaw04_FewAttrs.l0] at h
 | k + 1 => by
  have ih0 := caduceuslaw04_FewAttrs.mono_l k
  ·intro y0 y1
   unfold caduceuslaw04_FewAttrs.l0
   repeat' first
   | (with_reducible exact ih0 _ _)
   | (with_reducible exact LeO.refl _)
   | (with_reducible exact LeO.none _)
   | (with_reducible refine LeO.ite ?_ ?_)
   | (with_reducible refine LeO.bind ?_ (fun _ => ?_))
   | exact ih0 _ _
   | exact LeO.none _
   | refine LeO.ite ?_ ?_
   | refine LeO.bind ?_ (fun _ => ?_)
theorem caduceuslaw04_FewAttrs.mono : ∀ a0 k, LeO (caduceuslaw04_FewAttrs.f k a0) (caduceuslaw04_FewAttrs.f (k + 1) a0) := by
 intro a0 k
 have ih0 := caduceuslaw04_FewAttrs.mono_l k
 unfold caduceuslaw04_FewAttrs.f
 repeat' first
   | (with_reducible exact ih0 _ _)
   | (with_reducible exact LeO.refl _)
   | (with_reducible exact LeO.none _)
   | (with_reducible refine LeO.ite ?_ ?_)
   | (with_reducible refine LeO.bind ?_ (fun _ => ?_))
   | exact ih0 _ _
   | exact LeO.none _
   | refine LeO.ite ?_ ?_
   | refine LeO.bind ?_ (fun _ => ?_)
set_option maxHeartbeats 8000000 in
set_option maxRecDepth 100000 in
theorem caduceuslaw04_FewAttrs.calls (k : Nat) (A0 : Option Addr) (c0 : Nat) (l0 : List (S41)) (r : Bool) (w : World) (hr0 : Kd.C k41 w A0 l0.length l0) (hc0 : l0.length ≤ c0) (h : caduceuslaw04_FewAttrs.f k l0 = some r) :
  Calls Tryd.prog 5 #[.slice A0 l0.length c0] w fun e w' => e = .returned (.bool r) ∧ Drawn0 w w' := by
 have HR0 := Aside0.mk hr0
 have HC0 := Aside0.mk hc0
 clear hr0 hc0
 have H : (caduceuslaw04_FewAttrs.l0 k l0 0) = some r := h
 clear h
 have H' := Aside0.mk H
 clear H
 go_enter Tryd.func5, Tryd.ntmps5
 go_wp2
 go_loopg [3] k (fun kq v3 w' => ∃ (x3_1 : Int), v3 = .int .i64 x3_1 ∧ Aside0 (caduceuslaw04_FewAttrs.l0 kq l0 x3_1 = some r) ∧ Aside0 (kq ≤ k) ∧ Drawn0 w w')
 case atStart => exact ⟨(0), (endS), H', ⟨Nat.le_refl _⟩, drA⟩
 case round =>
  clear H'
  obtain ⟨x3_1, rfl, HA, HK1, ⟨m1, rfl⟩⟩ := hrel
  cases gk with
  | zero => exact absurd HA.out (by simp [caduceuslaw04_FewAttrs.l0])
  | succ k1 =>
   have H := HA.out
   clear HA
   simp only [caduceuslaw04_FewAttrs.l0] at H
   by_cases c2 : x3_1 < (l0.length : Int)
   ·rw [if_pos c2] at H
    have c2b0 : decide (x3_1 < (l0.length : Int)) = true := decide_eq_true c2
    clear c2
    by_cases c3 : x3_1 > 40
    ·rw [if_pos c3] at H
     have c3b0 : decide (40 < x3_1) = true := decide_eq_true c3
     clear c3
     obtain rfl := Option.some.inj H
     go_wp2
     go_ret
     exact ⟨endS, drA⟩
    ·rw [if_neg c3] at H
     have c3b0 : decide (40 < x3_1) = false := decide_eq_false c3
     clear c3
     by_cases c4 : 0 ≤ x3_1
     ·rw [if_pos c4] at H
      have c4b0 : decide (0 ≤ x3_1) = true := decide_eq_true c4
      clear c4
      by_cases c5 : (((rd_T41 l0 x3_1).f0).size : Int) > 200
      ·rw [if_pos c5] at H
       have c5b0 : decide (200 < (((rd_T41 l0 x3_1).f0).size : Int)) = true := decide_eq_true c5
       have c5b1 : decide (200 < ((rd_T41 l0 x3_1).f0).size) = true := decide_eq_true (by omega)
       clear c5
       obtain rfl := Option.some.inj H
       have p102 : 0 ≤ (x3_1 : Int) := odA
       have q102 : x3_1 < (l0.length : Int) := odA
       obtain ⟨ad102, e102, hx102_0, hx102_1, hx102_2, hx102_3⟩ := at_T41 HR0.out x3_1 p102 q102
       cases e102
       replace p102 := eq_true p102
       replace q102 := eq_true q102
       go_wp2
       go_ret
       exact ⟨endS, drA⟩
      ·rw [if_neg c5] at H
       have c5b0 : decide (200 < (((rd_T41 l0 x3_1).f0).size : Int)) = false := decide_eq_false c5
       have c5b1 : decide (200 < ((rd_T41 l0 x3_1).f0).size) = false := decide_eq_false (by omega)
       clear c5
       by_cases c6 : (((rd_T41 l0 x3_1).f1.f2).size : Int) > 500
       ·rw [if_pos c6] at H
        have c6b0 : decide (500 < (((rd_T41 l0 x3_1).f1.f2).size : Int)) = true := decide_eq_true c6
        have c6b1 : decide (500 < ((rd_T41 l0 x3_1).f1.f2).size) = true := decide_eq_true (by omega)
        clear c6
        obtain rfl := Option.some.inj H
        have p102 : 0 ≤ (x3_1 : Int) := odA
        have q102 : x3_1 < (l0.length : Int) := odA
        obtain ⟨ad102, e102, hx102_0, hx102_1, hx102_2, hx102_3⟩ := at_T41 HR0.out x3_1 p102 q102
        cases e102
        replace p102 := eq_true p102
        replace q102 := eq_true q102
        have p103 : 0 ≤ (x3_1 : Int) := odA
        have q103 : x3_1 < (l0.length : Int) := odA
        obtain ⟨ad103, e103, hx103_0, hx103_1, hx103_2, hx103_3⟩ := at_T41 HR0.out x3_1 p103 q103
        obtain rfl : ad102 = ad103 := (by injection e103)
        replace p103 := eq_true p103
        replace q103 := eq_true q103
        go_wp2
        go_ret
        exact ⟨endS, drA⟩
       ·rw [if_neg c6] at H
        have c6b0 : decide (500 < (((rd_T41 l0 x3_1).f1.f2).size : Int)) = false := decide_eq_false c6
        have c6b1 : decide (500 < ((rd_T41 l0 x3_1).f1.f2).size) = false := decide_eq_false (by omega)
        clear c6
        have H' := Aside0.mk H
        clear H
        have p102 : 0 ≤ (x3_1 : Int) := odA
        have q102 : x3_1 < (l0.length : Int) := odA
        obtain ⟨ad102, e102, hx102_0, hx102_1, hx102_2, hx102_3⟩ := at_T41 HR0.out x3_1 p102 q102
        cases e102
        replace p102 := eq_true p102
        replace q102 := eq_true q102
        have p103 : 0 ≤ (x3_1 : Int) := odA
        have q103 : x3_1 < (l0.length : Int) := odA
        obtain ⟨ad103, e103, hx103_0, hx103_1, hx103_2, hx103_3⟩ := at_T41 HR0.out x3_1 p103 q103
        obtain rfl : ad102 = ad103 := (by injection e103)
        replace p103 := eq_true p103
        replace q103 := eq_true q103
        go_wp2
        go_roundg k1
        case measure => have := HK1.out; omega
        case rel => exact ⟨(wrap64 (x3_1 + 1)), (endS), H', ⟨by have := HK1.out; omega⟩, drA⟩
     ·rw [if_neg c4] at H
      exact absurd H (by simp)
   ·rw [if_neg c2] at H
    have c2b0 : decide (x3_1 < (l0.length : Int)) = false := decide_eq_false c2
    clear c2
    obtain rfl := Option.some.inj H
    go_wp2
    go_ret
    exact ⟨endS, drA⟩

/-! ### strings_Count: function 56, by hand -/
def strings_Count.f (a0 : ByteArray) (a1 : ByteArray) : Option Int := if a1.size = 1 then some (Lib.countByte a0.data.toList (a1.data.toList.getD 0 0) : Int) else none
theorem strings_Count.calls (a0 : ByteArray) (a1 : ByteArray) (r : Int) (w : World) (h : strings_Count.f a0 a1 = some r) :
  Calls Tryd.prog 56 #[.string a0, .string a1] w fun e w' => e = .returned (.int .i64 r) ∧ Drawn0 w w' := by
 unfold strings_Count.f at h
 split at h
 ·rename_i hs
  obtain rfl := Option.some.inj h
  obtain ⟨c, rfl⟩ : ∃ c : UInt8, a1 = ⟨#[c]⟩ := by
   obtain ⟨⟨l⟩⟩ := a1
   match l, hs with
   | [c], _ => exact ⟨c, rfl⟩
  refine (Tryd.strings_Count_one a0 c w).mono ?_
  rintro e w' ⟨he, rfl⟩
  exact ⟨he, Drawn0.refl _⟩
 ·cases h

/-! ### name_between: function 79 -/
def name_between.f (a0 : Int) (a1 : Int) (a2 : Int) : Option (Bool) := if a0 ≥ a1 then (some (decide (a0 ≤ a2))) else (some false)
set_option maxHeartbeats 8000000 in
set_option maxRecDepth 100000 in
theorem name_between.calls (a0 : Int) (a1 : Int) (a2 : Int) (r : Bool) (w : World) (h : name_between.f a0 a1 a2 = some r) :
  Calls Tryd.prog 79 #[.int .i32 a0, .int .i32 a1, .int .i32 a2] w fun e w' => e = .returned (.bool r) ∧ Drawn0 w w' := by
 have H : (if a0 ≥ a1 then (some (decide (a0 ≤ a2))) else (some false)) = some r := h
 clear h
 by_cases c4 : a0 ≥ a1
 ·rw [if_pos c4] at H
  have c4b0 : decide (a1 ≤ a0) = true := decide_eq_true c4
  clear c4
  obtain rfl := Option.some.inj H
  go_enter Tryd.func79, Tryd.ntmps79
  go_wp2
  go_ret
  exact ⟨endS, drA⟩
 ·rw [if_neg c4] at H
  have c4b0 : decide (a1 ≤ a0) = false := decide_eq_false c4
  clear c4
  obtain rfl := Option.some.inj H
  go_enter Tryd.func79, Tryd.ntmps79
  go_wp2
  go_ret
  exact ⟨endS, drA⟩

/-! ### name_Letter: function 82 -/
def name_Letter.j0 : Nat → Int → Bool → Option (Bool)
 | 0, _, _ => none
 | k + 1, x0, x3 => if x3 = true then (some true) else ((name_between.f x0 192 591).bind fun t106 => (if t106 = true then (if x0 = 215 then (some false) else (some (x0 != 247))) else ((name_between.f x0 913 937).bind fun t107 => (if t107 = true then (some (x0 != 930)) else ((name_between.f x0 945 969).bind fun t108 => (if t108 = true then (some true) else ((name_between.f x0 1040 1103).bind fun t109 => (if t109 = true then (some true) else ((name_between.f x0 19968 40959).bind fun t110 => (some t110))))))))))
def name_Letter.f (k : Nat) (a0 : Int) : Option (Bool) := (name_between.f a0 65 90).bind fun t104 => (if t104 = true then (name_Letter.j0 k a0 t104) else ((name_between.f a0 97 122).bind fun t105 => (name_Letter.j0 k a0 t105)))
theorem name_Letter.mono_l : ∀ k, (∀ y0 y1, LeO (name_Letter.j0 k y0 y1) (name_Letter.j0 (k + 1) y0 y1))
 | 0 => fun _ _ r h => by simp [name_Letter.j0] at h
 | k + 1 => by
  have ih0 := name_Letter.mono_l k
  ·intro y0 y1
   unfold name_Letter.j0
   repeat' first
   | (with_reducible exact ih0 _ _)
   | (with_reducible exact LeO.refl _)
   | (with_reducible exact LeO.none _)
   | (with_reducible refine LeO.ite ?_ ?_)
   | (with_reducible refine LeO.bind ?_ (fun _ => ?_))
   | exact ih0 _ _
   | exact LeO.none _
   | refine LeO.ite ?_ ?_
   | refine LeO.bind ?_ (fun _ => ?_)
theorem name_Letter.mono : ∀ a0 k, LeO (name_Letter.f k a0) (name_Letter.f (k + 1) a0) := by
 intro a0 k
 have ih0 := name_Letter.mono_l k
 unfold name_Letter.f
 repeat' first
   | (with_reducible exact ih0 _ _)
   | (with_reducible exact LeO.refl _)
   | (with_reducible exact LeO.none _)
   | (with_reducible refine LeO.ite ?_ ?_)
   | (with_reducible refine LeO.bind ?_ (fun _ => ?_))
   | exact ih0 _ _
   | exact LeO.none _
   | refine LeO.ite ?_ ?_
   | refine LeO.bind ?_ (fun _ => ?_)
set_option maxHeartbeats 8000000 in
set_option maxRecDepth 100000 in
theorem name_Letter.calls (k : Nat) (a0 : Int) (r : Bool) (w : World) (h : name_Letter.f k a0 = some r) :
  Calls Tryd.prog 82 #[.int .i32 a0] w fun e w' => e = .returned (.bool r) ∧ Drawn0 w w' := by
 have H : ((name_between.f a0 65 90).bind fun t104 => (if t104 = true then (name_Letter.j0 k a0 t104) else ((name_between.f a0 97 122).bind fun t105 => (name_Letter.j0 k a0 t105)))) = some r := h
 clear h
 replace H := Option.bind_eq_some_iff.mp H
 obtain ⟨t104, A20, H⟩ := H
 replace H : (if t104 = true then (name_Letter.j0 k a0 t104) else ((name_between.f a0 97 122).bind fun t105 => (name_Letter.j0 k a0 t105))) = some r := H
 have A2 := Aside0.mk A20
 clear A20
 have HC3 := Aside0.mk H
 clear H
 go_enter Tryd.func82, Tryd.ntmps82
 go_upto_if 3 with (first | ((with_reducible refine gate_callee (f := 79) rfl ?_); refine goesA (some 5) Tryd.func79 #[.int .i32 a0, .int .i32 65, .int .i32 90] ?_; (with_reducible refine (name_between.calls a0 65 90 t104 _ A2.out).mono ?_); rintro e w' ⟨rfl, ⟨nd, rfl⟩⟩; refine ⟨_, rfl, ?_⟩))
 (try simp only [Act.put, List.setIfInBounds_toArray, List.set_cons_zero, List.set_cons_succ])
 go_cut [3] (fun v3 wc => ∃ (kq : Nat) (x3_2 : Bool), v3 = .bool x3_2 ∧ Aside0 (name_Letter.j0 kq a0 x3_2 = some r) ∧ Aside0 (kq ≤ k) ∧ Drawn0 w wc)
 case first =>
  have H := HC3.out
  clear HC3
  by_cases c4 : t104 = true
  ·subst c4
   have H1 : (name_Letter.j0 k a0 true) = some r := by rw [if_pos rfl] at H; exact H
   clear H
   have H := H1
   clear H1
   have H' := Aside0.mk H
   clear H
   go_wp2
   go_meet
   case rel => exact ⟨_, (true), (endS), H', ⟨by first | omega | exact Nat.le_refl _⟩, drA⟩
  ·replace c4 := Bool.eq_false_iff.mpr c4
   subst c4
   have H1 : ((name_between.f a0 97 122).bind fun t105 => (name_Letter.j0 k a0 t105)) = some r := by rw [if_neg (show ¬ (false = true) by decide)] at H; exact H
   clear H
   have H := H1
   clear H1
   replace H := Option.bind_eq_some_iff.mp H
   obtain ⟨t105, A50, H⟩ := H
   replace H : (name_Letter.j0 k a0 t105) = some r := H
   have A5 := Aside0.mk A50
   clear A50
   have H' := Aside0.mk H
   clear H
   go_wp2_with (first | ((with_reducible refine gate_callee (f := 79) rfl ?_); refine goesA (some 7) Tryd.func79 #[.int .i32 a0, .int .i32 97, .int .i32 122] ?_; (with_reducible refine (name_between.calls a0 97 122 t105 _ A5.out).mono ?_); rintro e w' ⟨rfl, ⟨nd, rfl⟩⟩; refine ⟨_, rfl, ?_⟩))
   go_meet
   case rel => exact ⟨_, (t105), (endS), H', ⟨by first | omega | exact Nat.le_refl _⟩, drA⟩
 case rest =>
  clear HC3
  try clear p2
  try clear c4
  obtain ⟨kq, x3_2, rfl, HA, HJ2, ⟨mc2, rfl⟩⟩ := hcut
  cases kq with
  | zero => exact absurd HA.out (by simp [name_Letter.j0])
  | succ kj2 =>
   have H := HA.out
   clear HA
   simp only [name_Letter.j0] at H
   by_cases c6 : x3_2 = true
   ·subst c6
    have H1 : (some true) = some r := by rw [if_pos rfl] at H; exact H
    clear H
    have H := H1
    clear H1
    obtain rfl := Option.some.inj H
    go_wp2
    go_ret
    exact ⟨endS, drA⟩
   ·replace c6 := Bool.eq_false_iff.mpr c6
    subst c6
    have H1 : ((name_between.f a0 192 591).bind fun t106 => (if t106 = true then (if a0 = 215 then (some false) else (some (a0 != 247))) else ((name_between.f a0 913 937).bind fun t107 => (if t107 = true then (some (a0 != 930)) else ((name_between.f a0 945 969).bind fun t108 => (if t108 = true then (some true) else ((name_between.f a0 1040 1103).bind fun t109 => (if t109 = true then (some true) else ((name_between.f a0 19968 40959).bind fun t110 => (some t110)))))))))) = some r := by rw [if_neg (show ¬ (false = true) by decide)] at H; exact H
    clear H
    have H := H1
    clear H1
    replace H := Option.bind_eq_some_iff.mp H
    obtain ⟨t106, A70, H⟩ := H
    replace H : (if t106 = true then (if a0 = 215 then (some false) else (some (a0 != 247))) else ((name_between.f a0 913 937).bind fun t107 => (if t107 = true then (some (a0 != 930)) else ((name_between.f a0 945 969).bind fun t108 => (if t108 = true then (some true) else ((name_between.f a0 1040 1103).bind fun t109 => (if t109 = true then (some true) else ((name_between.f a0 19968 40959).bind fun t110 => (some t110))))))))) = some r := H
    have A7 := Aside0.mk A70
    clear A70
    by_cases c8 : t106 = true
    ·subst c8
     have H1 : (if a0 = 215 then (some false) else (some (a0 != 247))) = some r := by rw [if_pos rfl] at H; exact H
     clear H
     have H := H1
     clear H1
     by_cases c9 : a0 = 215
     ·rw [if_pos c9] at H
      have c9b0 : (a0 == 215) = true := beq_iff_eq.mpr c9
      have c9b1 : (a0 != 215) = false := bne_eq_false_iff_eq.mpr c9
      clear c9
      obtain rfl := Option.some.inj H
      go_wp2_with (first | ((with_reducible refine gate_callee (f := 79) rfl ?_); refine goesA (some 10) Tryd.func79 #[.int .i32 a0, .int .i32 192, .int .i32 591] ?_; (with_reducible refine (name_between.calls a0 192 591 true _ A7.out).mono ?_); rintro e w' ⟨rfl, ⟨nd, rfl⟩⟩; refine ⟨_, rfl, ?_⟩))
      go_ret
      exact ⟨endS, drA⟩
     ·rw [if_neg c9] at H
      have c9b0 : (a0 == 215) = false := beq_eq_false_iff_ne.mpr c9
      have c9b1 : (a0 != 215) = true := bne_iff_ne.mpr c9
      obtain rfl := Option.some.inj H
      go_wp2_with (first | ((with_reducible refine gate_callee (f := 79) rfl ?_); refine goesA (some 10) Tryd.func79 #[.int .i32 a0, .int .i32 192, .int .i32 591] ?_; (with_reducible refine (name_between.calls a0 192 591 true _ A7.out).mono ?_); rintro e w' ⟨rfl, ⟨nd, rfl⟩⟩; refine ⟨_, rfl, ?_⟩))
      go_ret
      exact ⟨endS, drA⟩
    ·replace c8 := Bool.eq_false_iff.mpr c8
     subst c8
     have H1 : ((name_between.f a0 913 937).bind fun t107 => (if t107 = true then (some (a0 != 930)) else ((name_between.f a0 945 969).bind fun t108 => (if t108 = true then (some true) else ((name_between.f a0 1040 1103).bind fun t109 => (if t109 = true then (some true) else ((name_between.f a0 19968 40959).bind fun t110 => (some t110)))))))) = some r := by rw [if_neg (show ¬ (false = true) by decide)] at H; exact H
     clear H
     have H := H1
     clear H1
     replace H := Option.bind_eq_some_iff.mp H
     obtain ⟨t107, A100, H⟩ := H
     replace H : (if t107 = true then (some (a0 != 930)) else ((name_between.f a0 945 969).bind fun t108 => (if t108 = true then (some true) else ((name_between.f a0 1040 1103).bind fun t109 => (if t109 = true then (some true) else ((name_between.f a0 19968 40959).bind fun t110 => (some t110))))))) = some r := H
     have A10 := Aside0.mk A100
     clear A100
     by_cases c11 : t107 = true
     ·subst c11
      have H1 : (some (a0 != 930)) = some r := by rw [if_pos rfl] at H; exact H
      clear H
      have H := H1
      clear H1
      obtain rfl := Option.some.inj H
      go_wp2_with (first | ((with_reducible refine gate_callee (f := 79) rfl ?_); refine goesA (some 10) Tryd.func79 #[.int .i32 a0, .int .i32 192, .int .i32 591] ?_; (with_reducible refine (name_between.calls a0 192 591 false _ A7.out).mono ?_); rintro e w' ⟨rfl, ⟨nd, rfl⟩⟩; refine ⟨_, rfl, ?_⟩) | ((with_reducible refine gate_callee (f := 79) rfl ?_); refine goesA (some 19) Tryd.func79 #[.int .i32 a0, .int .i32 913, .int .i32 937] ?_; (with_reducible refine (name_between.calls a0 913 937 true _ A10.out).mono ?_); rintro e w' ⟨rfl, ⟨nd, rfl⟩⟩; refine ⟨_, rfl, ?_⟩))
      go_ret
      exact ⟨endS, drA⟩
     ·replace c11 := Bool.eq_false_iff.mpr c11
      subst c11
      have H1 : ((name_between.f a0 945 969).bind fun t108 => (if t108 = true then (some true) else ((name_between.f a0 1040 1103).bind fun t109 => (if t109 = true then (some true) else ((name_between.f a0 19968 40959).bind fun t110 => (some t110)))))) = some r := by rw [if_neg (show ¬ (false = true) by decide)] at H; exact H
      clear H
      have H := H1
      clear H1
      replace H := Option.bind_eq_some_iff.mp H
      obtain ⟨t108, A120, H⟩ := H
      replace H : (if t108 = true then (some true) else ((name_between.f a0 1040 1103).bind fun t109 => (if t109 = true then (some true) else ((name_between.f a0 19968 40959).bind fun t110 => (some t110))))) = some r := H
      have A12 := Aside0.mk A120
      clear A120
      by_cases c13 : t108 = true
      ·subst c13
       have H1 : (some true) = some r := by rw [if_pos rfl] at H; exact H
       clear H
       have H := H1
       clear H1
       obtain rfl := Option.some.inj H
       go_wp2_with (first | ((with_reducible refine gate_callee (f := 79) rfl ?_); refine goesA (some 10) Tryd.func79 #[.int .i32 a0, .int .i32 192, .int .i32 591] ?_; (with_reducible refine (name_between.calls a0 192 591 false _ A7.out).mono ?_); rintro e w' ⟨rfl, ⟨nd, rfl⟩⟩; refine ⟨_, rfl, ?_⟩) | ((with_reducible refine gate_callee (f := 79) rfl ?_); refine goesA (some 19) Tryd.func79 #[.int .i32 a0, .int .i32 913, .int .i32 937] ?_; (with_reducible refine (name_between.calls a0 913 937 false _ A10.out).mono ?_); rintro e w' ⟨rfl, ⟨nd, rfl⟩⟩; refine ⟨_, rfl, ?_⟩) | ((with_reducible refine gate_callee (f := 79) rfl ?_); refine goesA (some 23) Tryd.func79 #[.int .i32 a0, .int .i32 945, .int .i32 969] ?_; (with_reducible refine (name_between.calls a0 945 969 true _ A12.out).mono ?_); rintro e w' ⟨rfl, ⟨nd, rfl⟩⟩; refine ⟨_, rfl, ?_⟩))
       go_ret
       exact ⟨endS, drA⟩
      ·replace c13 := Bool.eq_false_iff.mpr c13
       subst c13
       have H1 : ((name_between.f a0 1040 1103).bind fun t109 => (if t109 = true then (some true) else ((name_between.f a0 19968 40959).bind fun t110 => (some t110)))) = some r := by rw [if_neg (show ¬ (false = true) by decide)] at H; exact H
       clear H
       have H := H1
       clear H1
       replace H := Option.bind_eq_some_iff.mp H
       obtain ⟨t109, A140, H⟩ := H
       replace H : (if t109 = true then (some true) else ((name_between.f a0 19968 40959).bind fun t110 => (some t110))) = some r := H
       have A14 := Aside0.mk A140
       clear A140
       by_cases c15 : t109 = true
       ·subst c15
        have H1 : (some true) = some r := by rw [if_pos rfl] at H; exact H
        clear H
        have H := H1
        clear H1
        obtain rfl := Option.some.inj H
        go_wp2_with (first | ((with_reducible refine gate_callee (f := 79) rfl ?_); refine goesA (some 10) Tryd.func79 #[.int .i32 a0, .int .i32 192, .int .i32 591] ?_; (with_reducible refine (name_between.calls a0 192 591 false _ A7.out).mono ?_); rintro e w' ⟨rfl, ⟨nd, rfl⟩⟩; refine ⟨_, rfl, ?_⟩) | ((with_reducible refine gate_callee (f := 79) rfl ?_); refine goesA (some 19) Tryd.func79 #[.int .i32 a0, .int .i32 913, .int .i32 937] ?_; (with_reducible refine (name_between.calls a0 913 937 false _ A10.out).mono ?_); rintro e w' ⟨rfl, ⟨nd, rfl⟩⟩; refine ⟨_, rfl, ?_⟩) | ((with_reducible refine gate_callee (f := 79) rfl ?_); refine goesA (some 23) Tryd.func79 #[.int .i32 a0, .int .i32 945, .int .i32 969] ?_; (with_reducible refine (name_between.calls a0 945 969 false _ A12.out).mono ?_); rintro e w' ⟨rfl, ⟨nd, rfl⟩⟩; refine ⟨_, rfl, ?_⟩) | (go_at_call 79; (with_reducible refine (name_between.calls a0 1040 1103 true _ A14.out).mono ?_); rintro e w' ⟨rfl, ⟨nd, rfl⟩⟩))
        go_ret
        exact ⟨endS, drA⟩
       ·replace c15 := Bool.eq_false_iff.mpr c15
        subst c15
        have H1 : ((name_between.f a0 19968 40959).bind fun t110 => (some t110)) = some r := by rw [if_neg (show ¬ (false = true) by decide)] at H; exact H
        clear H
        have H := H1
        clear H1
        replace H := Option.bind_eq_some_iff.mp H
        obtain ⟨t110, A160, H⟩ := H
        replace H : (some t110) = some r := H
        have A16 := Aside0.mk A160
        clear A160
        obtain rfl := Option.some.inj H
        go_wp2_with (first | ((with_reducible refine gate_callee (f := 79) rfl ?_); refine goesA (some 10) Tryd.func79 #[.int .i32 a0, .int .i32 192, .int .i32 591] ?_; (with_reducible refine (name_between.calls a0 192 591 false _ A7.out).mono ?_); rintro e w' ⟨rfl, ⟨nd, rfl⟩⟩; refine ⟨_, rfl, ?_⟩) | ((with_reducible refine gate_callee (f := 79) rfl ?_); refine goesA (some 19) Tryd.func79 #[.int .i32 a0, .int .i32 913, .int .i32 937] ?_; (with_reducible refine (name_between.calls a0 913 937 false _ A10.out).mono ?_); rintro e w' ⟨rfl, ⟨nd, rfl⟩⟩; refine ⟨_, rfl, ?_⟩) | ((with_reducible refine gate_callee (f := 79) rfl ?_); refine goesA (some 23) Tryd.func79 #[.int .i32 a0, .int .i32 945, .int .i32 969] ?_; (with_reducible refine (name_between.calls a0 945 969 false _ A12.out).mono ?_); rintro e w' ⟨rfl, ⟨nd, rfl⟩⟩; refine ⟨_, rfl, ?_⟩) | (go_at_call 79; (with_reducible refine (name_between.calls a0 1040 1103 false _ A14.out).mono ?_); rintro e w' ⟨rfl, ⟨nd, rfl⟩⟩) | (go_at_call 79; (with_reducible refine (name_between.calls a0 19968 40959 t110 _ A16.out).mono ?_); rintro e w' ⟨rfl, ⟨nd, rfl⟩⟩))
        go_ret
        exact ⟨endS, drA⟩

/-! ### name_digit: function 83 -/
def name_digit.f (a0 : Int) : Option (Bool) := (name_between.f a0 48 57).bind fun t111 => (some t111)
set_option maxHeartbeats 8000000 in
set_option maxRecDepth 100000 in
theorem name_digit.calls (a0 : Int) (r : Bool) (w : World) (h : name_digit.f a0 = some r) :
  Calls Tryd.prog 83 #[.int .i32 a0] w fun e w' => e = .returned (.bool r) ∧ Drawn0 w w' := by
 have H : ((name_between.f a0 48 57).bind fun t111 => (some t111)) = some r := h
 clear h
 replace H := Option.bind_eq_some_iff.mp H
 obtain ⟨t111, A20, H⟩ := H
 replace H : (some t111) = some r := H
 have A2 := Aside0.mk A20
 clear A20
 obtain rfl := Option.some.inj H
 go_enter Tryd.func83, Tryd.ntmps83
 go_wp2_with (first | ((with_reducible refine gate_callee (f := 79) rfl ?_); refine goesA (some 4) Tryd.func79 #[.int .i32 a0, .int .i32 48, .int .i32 57] ?_; (with_reducible refine (name_between.calls a0 48 57 t111 _ A2.out).mono ?_); rintro e w' ⟨rfl, ⟨nd, rfl⟩⟩; refine ⟨_, rfl, ?_⟩))
 go_ret
 exact ⟨endS, drA⟩

end Go.Proofs.YtbbfggfiknbdmaaDoor.A
