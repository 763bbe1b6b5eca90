-- By drv.py, the session's own driver round the kit's print: the machine's side of the laws, function by function. Not trusted: Lean checks it.
import Derived.Test.YtbbfggfiknbdmaaGreatDoorAx0
import Derived.Test.YtbbfggfiknbdmaaGreatDoorAx1
import Derived.Test.YtbbfggfiknbdmaaGreatDoorAx2
import Derived.Test.YtbbfggfiknbdmaaGreatDoorAx6
import Derived.Test.YtbbfggfiknbdmaaGreatDoorAx11
import Derived.Test.YtbbfggfiknbdmaaGreatDoorAx14
import Derived.Test.YtbbfggfiknbdmaaGreatDoorAx22
import Derived.Test.YtbbfggfiknbdmaaGreatDoorAx23
import Derived.Test.YtbbfggfiknbdmaaGreatDoorAx24
namespace Go.Proofs.YtbbfggfiknbdmaaGreatDoor.A
open Go.RowKit Go.Proofs.YtbbfggfiknbdmaaGreatDoorW.PrintWords Go.Proofs.YtbbfggfiknbdmaaGreatDoorW.PrintLast Go.Proofs.YtbbfggfiknbdmaaGreatDoorW.PrintMore
attribute [local go_sem] max2_int min2_int max_two min_two max_three min_three max_four min_four   -- for this text's walks alone
set_option linter.unusedVariables false
set_option linter.unusedSimpArgs false

attribute [local go_sem high] eqA52
/-! ### caduceusref04_Same: function 11 -/
def caduceusref04_Same.l0 : Nat → List (S52) → List (S52) → Int → Option (Bool)
 | 0, _, _, _ => none
 | k + 1, x0, x1, x5 => if x5 < (x0.length : Int) then (if 0 ≤ x5 then (if x5 < (x1.length : Int) then (if (!((((rd_T52 x0 x5).f0).toList) == (((rd_T52 x1 x5).f0).toList)) || (!(((rd_T52 x0 x5).f1) == ((rd_T52 x1 x5).f1)) || (!(((rd_T52 x0 x5).f2) == ((rd_T52 x1 x5).f2))))) = true then (some false) else (caduceusref04_Same.l0 k x0 x1 (wrap64 (x5 + 1)))) else (none)) else (none)) else (some true)
def caduceusref04_Same.f (k : Nat) (l0 : List (S52)) (l1 : List (S52)) : Option (Bool) := if (l0.length : Int) = (l1.length : Int) then (caduceusref04_Same.l0 k l0 l1 0) else (some false)
theorem caduceusref04_Same.mono_l : ∀ k, (∀ y0 y1 y2, LeO (caduceusref04_Same.l0 k y0 y1 y2) (caduceusref04_Same.l0 (k + 1) y0 y1 y2))
 | 0 => fun _ _ _ r h => by simp [caduceusref04_Same.l0] at h
 | k + 1 => by
  have ih0 := caduceusref04_Same.mono_l k
  ·intro y0 y1 y2
   unfold caduceusref04_Same.l0
   repeat' first
   | (with_reducible exact ih0 _ _ _)
   | (with_reducible exact LeO.refl _)
   | (with_reducible exact LeO.none _)
   | (with_reducible refine LeO.ite ?_ ?_)
   | (with_reducible refine LeO.bind ?_ (fun _ => ?_))
   | exact ih0 _ _ _
   | exact LeO.none _
   | refine LeO.ite ?_ ?_
   | refine LeO.bind ?_ (fun _ => ?_)
theorem caduceusref04_Same.mono : ∀ a0 a1 k, LeO (caduceusref04_Same.f k a0 a1) (caduceusref04_Same.f (k + 1) a0 a1) := by
 intro a0 a1 k
 have ih0 := caduceusref04_Same.mono_l k
 unfold caduceusref04_Same.f
 repeat' first
   | (with_reducible exact ih0 _ _ _)
   | (with_reducible exact LeO.refl _)
   | (with_reducible exact LeO.none _)
   | (with_reducible refine LeO.ite ?_ ?_)
   | (with_reducible refine LeO.bind ?_ (fun _ => ?_))
   | exact ih0 _ _ _
   | exact LeO.none _
   | refine LeO.ite ?_ ?_
   | refine LeO.bind ?_ (fun _ => ?_)
set_option maxHeartbeats 8000000 in
set_option maxRecDepth 100000 in
theorem caduceusref04_Same.calls (k : Nat) (A0 : Option Addr) (c0 : Nat) (l0 : List (S52)) (A1 : Option Addr) (c1 : Nat) (l1 : List (S52)) (r : Bool) (w : World) (hr0 : Kd.C k52 w A0 l0.length l0) (hc0 : l0.length ≤ c0) (hr1 : Kd.C k52 w A1 l1.length l1) (hc1 : l1.length ≤ c1) (h : caduceusref04_Same.f k l0 l1 = some r) :
  Calls Tryz.prog 11 #[.slice A0 l0.length c0, .slice A1 l1.length c1] w fun e w' => e = .returned (.bool r) ∧ Drawn0 w w' := by
 have hu52 := Tryz.underlying52
 have HR0 := Aside0.mk hr0
 have HC0 := Aside0.mk hc0
 clear hr0 hc0
 have HR1 := Aside0.mk hr1
 have HC1 := Aside0.mk hc1
 clear hr1 hc1
 have H : (if (l0.length : Int) = (l1.length : Int) then (caduceusref04_Same.l0 k l0 l1 0) else (some false)) = some r := h
 clear h
 by_cases c3 : (l0.length : Int) = (l1.length : Int)
 ·rw [if_pos c3] at H
  have c3b0 : ((l0.length : Int) == (l1.length : Int)) = true := beq_iff_eq.mpr c3
  have c3b1 : ((l0.length : Int) != (l1.length : Int)) = false := bne_eq_false_iff_eq.mpr c3
  have c3b2 : (l0.length == l1.length) = true := by first | simpa using c3 | (simp at c3 ⊢; omega)
  clear c3
  have H' := Aside0.mk H
  clear H
  go_enter Tryz.func11, Tryz.ntmps11
  go_wp2
  repeat (go_quiet (fail); try go_wp2)
  go_loopg [5] k (fun kq v5 w' => ∃ (x5_1 : Int), v5 = .int .i64 x5_1 ∧ Aside0 (caduceusref04_Same.l0 kq l0 l1 x5_1 = some r) ∧ Aside0 (kq ≤ k) ∧ Drawn0 w w')
  case atStart => exact ⟨(0), (endS), H', ⟨Nat.le_refl _⟩, drA⟩
  case round =>
   clear H'
   try clear c1
   try clear p2
   try clear c3
   try clear c3b0
   try clear c3b1
   try clear c3b2
   obtain ⟨x5_1, rfl, HA, HK1, ⟨m1, rfl⟩⟩ := hrel
   cases gk with
   | zero => exact absurd HA.out (by simp [caduceusref04_Same.l0])
   | succ k1 =>
    have H := HA.out
    clear HA
    simp only [caduceusref04_Same.l0] at H
    by_cases c4 : x5_1 < (l0.length : Int)
    ·rw [if_pos c4] at H
     have c4b0 : decide (x5_1 < (l0.length : Int)) = true := decide_eq_true c4
     clear c4
     by_cases c5 : 0 ≤ x5_1
     ·rw [if_pos c5] at H
      have c5b0 : decide (0 ≤ x5_1) = true := decide_eq_true c5
      clear c5
      by_cases c6 : x5_1 < (l1.length : Int)
      ·rw [if_pos c6] at H
       have c6b0 : decide (x5_1 < (l1.length : Int)) = true := decide_eq_true c6
       clear c6
       by_cases c7 : (!((((rd_T52 l0 x5_1).f0).toList) == (((rd_T52 l1 x5_1).f0).toList)) || (!(((rd_T52 l0 x5_1).f1) == ((rd_T52 l1 x5_1).f1)) || (!(((rd_T52 l0 x5_1).f2) == ((rd_T52 l1 x5_1).f2))))) = true
       ·rw [if_pos c7] at H
        have c7b0 : (!((((rd_T52 l0 x5_1).f0).toList) == (((rd_T52 l1 x5_1).f0).toList)) || (!(((rd_T52 l0 x5_1).f1) == ((rd_T52 l1 x5_1).f1)) || (!(((rd_T52 l0 x5_1).f2) == ((rd_T52 l1 x5_1).f2))))) = true := c7
        clear c7
        obtain rfl := Option.some.inj H
        have p357 : 0 ≤ (x5_1 : Int) := odA
        have q357 : x5_1 < (l0.length : Int) := odA
        obtain ⟨ad357, e357, hx357_0, hx357_1, hx357_2⟩ := at_T52 HR0.out x5_1 p357 q357
        cases e357
        replace p357 := eq_true p357
        replace q357 := eq_true q357
        have p358 : 0 ≤ (x5_1 : Int) := odA
        have q358 : x5_1 < (l1.length : Int) := odA
        obtain ⟨ad358, e358, hx358_0, hx358_1, hx358_2⟩ := at_T52 HR1.out x5_1 p358 q358
        cases e358
        replace p358 := eq_true p358
        replace q358 := eq_true q358
        go_wp2
        repeat (go_quiet (fail); try go_wp2)
        go_ret
        exact ⟨endS, drA⟩
       ·rw [if_neg c7] at H
        have c7b0 : (!((((rd_T52 l0 x5_1).f0).toList) == (((rd_T52 l1 x5_1).f0).toList)) || (!(((rd_T52 l0 x5_1).f1) == ((rd_T52 l1 x5_1).f1)) || (!(((rd_T52 l0 x5_1).f2) == ((rd_T52 l1 x5_1).f2))))) = false := by simpa using c7
        clear c7
        have H' := Aside0.mk H
        clear H
        have p357 : 0 ≤ (x5_1 : Int) := odA
        have q357 : x5_1 < (l0.length : Int) := odA
        obtain ⟨ad357, e357, hx357_0, hx357_1, hx357_2⟩ := at_T52 HR0.out x5_1 p357 q357
        cases e357
        replace p357 := eq_true p357
        replace q357 := eq_true q357
        have p358 : 0 ≤ (x5_1 : Int) := odA
        have q358 : x5_1 < (l1.length : Int) := odA
        obtain ⟨ad358, e358, hx358_0, hx358_1, hx358_2⟩ := at_T52 HR1.out x5_1 p358 q358
        cases e358
        replace p358 := eq_true p358
        replace q358 := eq_true q358
        go_wp2
        repeat (go_quiet (fail); try go_wp2)
        go_roundg k1
        case measure => have := HK1.out; omega
        case rel => exact ⟨(wrap64 (x5_1 + 1)), (endS), H', ⟨by have := HK1.out; omega⟩, drA⟩
      ·rw [if_neg c6] at H
       exact absurd H (by simp)
     ·rw [if_neg c5] at H
      exact absurd H (by simp)
    ·rw [if_neg c4] at H
     have c4b0 : decide (x5_1 < (l0.length : Int)) = false := decide_eq_false c4
     clear c4
     obtain rfl := Option.some.inj H
     go_wp2
     repeat (go_quiet (fail); try go_wp2)
     go_ret
     exact ⟨endS, drA⟩
 ·rw [if_neg c3] at H
  have c3b0 : ((l0.length : Int) == (l1.length : Int)) = false := beq_eq_false_iff_ne.mpr c3
  have c3b1 : ((l0.length : Int) != (l1.length : Int)) = true := bne_iff_ne.mpr c3
  have c3b2 : (l0.length == l1.length) = false := by first | simpa using c3 | (simp at c3 ⊢; omega)
  obtain rfl := Option.some.inj H
  go_enter Tryz.func11, Tryz.ntmps11
  go_wp2
  repeat (go_quiet (fail); try go_wp2)
  go_ret
  exact ⟨endS, drA⟩

/-! ### caduceuslaw04_SchemaSorts: function 3 -/
def caduceuslaw04_SchemaSorts.f (k : Nat) (l0 : List (S35)) : Option (Bool) := (caduceuslaw04_Few.f k l0).bind fun t359 => (if t359 = true then ((schema_Sort.f k l0).bind fun bt361 => ((caduceuslaw04_Refs.f k l0).bind fun t365 => ((caduceusref04_Sort.f k t365).bind fun bt368 => ((caduceuslaw04_awake.f k).bind fun t372 => (if t372 = true then ((schema_Check.f k l0).bind fun t373 => ((caduceuslaw04_Refs.f k l0).bind fun t374 => ((caduceusref04_Check.f k t374).bind fun t377 => (if (t373 == t377) = true then ((caduceuslaw04_Refs.f k bt361.1).bind fun t378 => ((caduceusref04_Same.f k t378 bt368.1).bind fun t381 => (if t381 = true then (some (bt361.2 == bt368.2)) else (none)))) else (none))))) else (none)))))) else ((caduceuslaw04_awake.f k).bind fun t360 => (some t360)))
theorem caduceuslaw04_SchemaSorts.mono : ∀ a0 k, LeO (caduceuslaw04_SchemaSorts.f k a0) (caduceuslaw04_SchemaSorts.f (k + 1) a0) := by
 intro a0 k
 unfold caduceuslaw04_SchemaSorts.f
 repeat' first
   | (with_reducible exact caduceuslaw04_Few.mono _ _)
   | (with_reducible exact caduceuslaw04_Refs.mono _ _)
   | (with_reducible exact caduceuslaw04_awake.mono _)
   | (with_reducible exact caduceusref04_Check.mono _ _)
   | (with_reducible exact caduceusref04_Same.mono _ _ _)
   | (with_reducible exact caduceusref04_Sort.mono _ _)
   | (with_reducible exact schema_Check.mono _ _)
   | (with_reducible exact schema_Sort.mono _ _)
   | (with_reducible exact LeO.refl _)
   | (with_reducible exact LeO.none _)
   | (with_reducible refine LeO.ite ?_ ?_)
   | (with_reducible refine LeO.bind ?_ (fun _ => ?_))
   | exact caduceuslaw04_Few.mono _ _
   | exact caduceuslaw04_Refs.mono _ _
   | exact caduceuslaw04_awake.mono _
   | exact caduceusref04_Check.mono _ _
   | exact caduceusref04_Same.mono _ _ _
   | exact caduceusref04_Sort.mono _ _
   | exact schema_Check.mono _ _
   | exact schema_Sort.mono _ _
   | exact LeO.none _
   | refine LeO.ite ?_ ?_
   | refine LeO.bind ?_ (fun _ => ?_)
set_option maxHeartbeats 8000000 in
set_option maxRecDepth 100000 in
theorem caduceuslaw04_SchemaSorts.calls (k : Nat) (A0 : Option Addr) (c0 : Nat) (l0 : List (S35)) (r : Bool) (w : World) (hr0 : Kd.C k35 w A0 l0.length l0) (hc0 : l0.length ≤ c0) (hT : Tabs w) (h : caduceuslaw04_SchemaSorts.f k l0 = some r) :
  Calls Tryz.prog 3 #[.slice A0 l0.length c0] w fun e w' => e = .returned (.bool r) ∧ Below w.heap.size w w' := by
 have HR0 := Aside0.mk hr0
 have HC0 := Aside0.mk hc0
 clear hr0 hc0
 have HB := Aside0.mk (Below.refl w.heap.size w)
 have H : ((caduceuslaw04_Few.f k l0).bind fun t359 => (if t359 = true then ((schema_Sort.f k l0).bind fun bt361 => ((caduceuslaw04_Refs.f k l0).bind fun t365 => ((caduceusref04_Sort.f k t365).bind fun bt368 => ((caduceuslaw04_awake.f k).bind fun t372 => (if t372 = true then ((schema_Check.f k l0).bind fun t373 => ((caduceuslaw04_Refs.f k l0).bind fun t374 => ((caduceusref04_Check.f k t374).bind fun t377 => (if (t373 == t377) = true then ((caduceuslaw04_Refs.f k bt361.1).bind fun t378 => ((caduceusref04_Same.f k t378 bt368.1).bind fun t381 => (if t381 = true then (some (bt361.2 == bt368.2)) else (none)))) else (none))))) else (none)))))) else ((caduceuslaw04_awake.f k).bind fun t360 => (some t360)))) = some r := h
 clear h
 have HT := Aside0.mk hT
 clear hT
 replace H := Option.bind_eq_some_iff.mp H
 obtain ⟨t359, A20, H⟩ := H
 replace H : (if t359 = true then ((schema_Sort.f k l0).bind fun bt361 => ((caduceuslaw04_Refs.f k l0).bind fun t365 => ((caduceusref04_Sort.f k t365).bind fun bt368 => ((caduceuslaw04_awake.f k).bind fun t372 => (if t372 = true then ((schema_Check.f k l0).bind fun t373 => ((caduceuslaw04_Refs.f k l0).bind fun t374 => ((caduceusref04_Check.f k t374).bind fun t377 => (if (t373 == t377) = true then ((caduceuslaw04_Refs.f k bt361.1).bind fun t378 => ((caduceusref04_Same.f k t378 bt368.1).bind fun t381 => (if t381 = true then (some (bt361.2 == bt368.2)) else (none)))) else (none))))) else (none)))))) else ((caduceuslaw04_awake.f k).bind fun t360 => (some t360))) = some r := H
 have A2 := Aside0.mk A20
 clear A20
 by_cases c3 : t359 = true
 ·subst c3
  have H1 : ((schema_Sort.f k l0).bind fun bt361 => ((caduceuslaw04_Refs.f k l0).bind fun t365 => ((caduceusref04_Sort.f k t365).bind fun bt368 => ((caduceuslaw04_awake.f k).bind fun t372 => (if t372 = true then ((schema_Check.f k l0).bind fun t373 => ((caduceuslaw04_Refs.f k l0).bind fun t374 => ((caduceusref04_Check.f k t374).bind fun t377 => (if (t373 == t377) = true then ((caduceuslaw04_Refs.f k bt361.1).bind fun t378 => ((caduceusref04_Same.f k t378 bt368.1).bind fun t381 => (if t381 = true then (some (bt361.2 == bt368.2)) else (none)))) else (none))))) else (none)))))) = some r := by rw [if_pos rfl] at H; exact H
  clear H
  have H := H1
  clear H1
  replace H := Option.bind_eq_some_iff.mp H
  obtain ⟨⟨t361, t362⟩, A40, H⟩ := H
  replace H : ((caduceuslaw04_Refs.f k l0).bind fun t365 => ((caduceusref04_Sort.f k t365).bind fun bt368 => ((caduceuslaw04_awake.f k).bind fun t372 => (if t372 = true then ((schema_Check.f k l0).bind fun t373 => ((caduceuslaw04_Refs.f k l0).bind fun t374 => ((caduceusref04_Check.f k t374).bind fun t377 => (if (t373 == t377) = true then ((caduceuslaw04_Refs.f k t361).bind fun t378 => ((caduceusref04_Same.f k t378 bt368.1).bind fun t381 => (if t381 = true then (some (t362 == bt368.2)) else (none)))) else (none))))) else (none))))) = some r := H
  have A4 := Aside0.mk A40
  clear A40
  replace H := Option.bind_eq_some_iff.mp H
  obtain ⟨t365, A50, H⟩ := H
  replace H : ((caduceusref04_Sort.f k t365).bind fun bt368 => ((caduceuslaw04_awake.f k).bind fun t372 => (if t372 = true then ((schema_Check.f k l0).bind fun t373 => ((caduceuslaw04_Refs.f k l0).bind fun t374 => ((caduceusref04_Check.f k t374).bind fun t377 => (if (t373 == t377) = true then ((caduceuslaw04_Refs.f k t361).bind fun t378 => ((caduceusref04_Same.f k t378 bt368.1).bind fun t381 => (if t381 = true then (some (t362 == bt368.2)) else (none)))) else (none))))) else (none)))) = some r := H
  have A5 := Aside0.mk A50
  clear A50
  replace H := Option.bind_eq_some_iff.mp H
  obtain ⟨⟨t368, t369⟩, A60, H⟩ := H
  replace H : ((caduceuslaw04_awake.f k).bind fun t372 => (if t372 = true then ((schema_Check.f k l0).bind fun t373 => ((caduceuslaw04_Refs.f k l0).bind fun t374 => ((caduceusref04_Check.f k t374).bind fun t377 => (if (t373 == t377) = true then ((caduceuslaw04_Refs.f k t361).bind fun t378 => ((caduceusref04_Same.f k t378 t368).bind fun t381 => (if t381 = true then (some (t362 == t369)) else (none)))) else (none))))) else (none))) = some r := H
  have A6 := Aside0.mk A60
  clear A60
  replace H := Option.bind_eq_some_iff.mp H
  obtain ⟨t372, A70, H⟩ := H
  replace H : (if t372 = true then ((schema_Check.f k l0).bind fun t373 => ((caduceuslaw04_Refs.f k l0).bind fun t374 => ((caduceusref04_Check.f k t374).bind fun t377 => (if (t373 == t377) = true then ((caduceuslaw04_Refs.f k t361).bind fun t378 => ((caduceusref04_Same.f k t378 t368).bind fun t381 => (if t381 = true then (some (t362 == t369)) else (none)))) else (none))))) else (none)) = some r := H
  have A7 := Aside0.mk A70
  clear A70
  by_cases c8 : t372 = true
  ·subst c8
   have H1 : ((schema_Check.f k l0).bind fun t373 => ((caduceuslaw04_Refs.f k l0).bind fun t374 => ((caduceusref04_Check.f k t374).bind fun t377 => (if (t373 == t377) = true then ((caduceuslaw04_Refs.f k t361).bind fun t378 => ((caduceusref04_Same.f k t378 t368).bind fun t381 => (if t381 = true then (some (t362 == t369)) else (none)))) else (none))))) = some r := by rw [if_pos rfl] at H; exact H
   clear H
   have H := H1
   clear H1
   replace H := Option.bind_eq_some_iff.mp H
   obtain ⟨t373, A90, H⟩ := H
   replace H : ((caduceuslaw04_Refs.f k l0).bind fun t374 => ((caduceusref04_Check.f k t374).bind fun t377 => (if (t373 == t377) = true then ((caduceuslaw04_Refs.f k t361).bind fun t378 => ((caduceusref04_Same.f k t378 t368).bind fun t381 => (if t381 = true then (some (t362 == t369)) else (none)))) else (none)))) = some r := H
   have A9 := Aside0.mk A90
   clear A90
   replace H := Option.bind_eq_some_iff.mp H
   obtain ⟨t374, A100, H⟩ := H
   replace H : ((caduceusref04_Check.f k t374).bind fun t377 => (if (t373 == t377) = true then ((caduceuslaw04_Refs.f k t361).bind fun t378 => ((caduceusref04_Same.f k t378 t368).bind fun t381 => (if t381 = true then (some (t362 == t369)) else (none)))) else (none))) = some r := H
   have A10 := Aside0.mk A100
   clear A100
   replace H := Option.bind_eq_some_iff.mp H
   obtain ⟨t377, A110, H⟩ := H
   replace H : (if (t373 == t377) = true then ((caduceuslaw04_Refs.f k t361).bind fun t378 => ((caduceusref04_Same.f k t378 t368).bind fun t381 => (if t381 = true then (some (t362 == t369)) else (none)))) else (none)) = some r := H
   have A11 := Aside0.mk A110
   clear A110
   by_cases c12 : (t373 == t377) = true
   ·rw [if_pos c12] at H
    have c12b0 : (t373 == t377) = true := c12
    (try (have c12b1 : decide (t373 = t377) = true := by simpa using c12))
    (try (have c12b2 : (t373 == t377) = true := by simpa using c12))
    clear c12
    replace H := Option.bind_eq_some_iff.mp H
    obtain ⟨t378, A130, H⟩ := H
    replace H : ((caduceusref04_Same.f k t378 t368).bind fun t381 => (if t381 = true then (some (t362 == t369)) else (none))) = some r := H
    have A13 := Aside0.mk A130
    clear A130
    replace H := Option.bind_eq_some_iff.mp H
    obtain ⟨t381, A140, H⟩ := H
    replace H : (if t381 = true then (some (t362 == t369)) else (none)) = some r := H
    have A14 := Aside0.mk A140
    clear A140
    by_cases c15 : t381 = true
    ·subst c15
     have H1 : (some (t362 == t369)) = some r := by rw [if_pos rfl] at H; exact H
     clear H
     have H := H1
     clear H1
     obtain rfl := Option.some.inj H
     go_enter Tryz.func3, Tryz.ntmps3
     go_wp2_with (first | ((with_reducible refine gate_callee (f := 4) rfl ?_); refine goesA (some 8) Tryz.func4 #[.slice A0 l0.length c0] ?_; (with_reducible refine (caduceuslaw04_Few.calls k _ _ l0 true _ ?side1 ?side2 A2.out).mono ?_); (case side1 => repeat (first | exact HR0.out | (with_reducible refine Kd.C_alloc ?_ _) | (with_reducible refine Kd.C_drewN ?_ _) | (with_reducible refine Kd.C_drew ?_))); (case side2 => exact HC0.out); rintro e w' ⟨rfl, ⟨nd, rfl⟩⟩; refine ⟨_, rfl, ?_⟩) | ((with_reducible refine gate_callee (f := 6) rfl ?_); refine goesA (some 13) Tryz.func6 #[.slice A0 l0.length c0] ?_; (with_reducible refine (schema_Sort.calls k _ _ l0 t361 t362 _ ?side1 ?side2 ?side3 A4.out).mono ?_); (case side1 => repeat (first | exact HR0.out | (with_reducible refine Kd.C_alloc ?_ _) | (with_reducible refine Kd.C_drewN ?_ _) | (with_reducible refine Kd.C_drew ?_))); (case side2 => exact HC0.out); (case side3 => exact Tabs.below HT.out (bwA)); rintro e w16 ⟨v363, rfl, ho0, hb⟩; refine ⟨_, rfl, ?_⟩; have n0_ := Aside0.mk (Kd.R_lower ho0 (below_size (bwA))); have n1_ := Aside0.mk (below_step (bwA) hb); clear HB; have HO364 := n0_; have HB := n1_; clear n0_ n1_; (try clear hb); (try clear hb2); (try clear hk); (try clear hi); (try clear ho0)) | ((with_reducible refine gate_callee (f := 8) rfl ?_); refine goesA (some 18) Tryz.func8 #[.slice A0 l0.length c0] ?_; (with_reducible refine (caduceuslaw04_Refs.calls k _ _ l0 t365 _ ?side1 ?side2 A5.out).mono ?_); (case side1 => repeat (first | exact (Kd.C_below HR0.out HB.out) | (with_reducible refine Kd.C_alloc ?_ _) | (with_reducible refine Kd.C_drewN ?_ _) | (with_reducible refine Kd.C_drew ?_))); (case side2 => exact HC0.out); rintro e w17 ⟨v366, rfl, ho0, hb⟩; refine ⟨_, rfl, ?_⟩; have n0_ := Aside0.mk (Kd.R_below (by (with_reducible repeat (first | apply Kd.R_alloc | apply Kd.R_drewN | apply Kd.R_drew)); exact HO364.out) hb); have n1_ := Aside0.mk (Kd.R_lower ho0 (below_size (bwA))); have n2_ := Aside0.mk (below_step (bwA) hb); clear HO364; clear HB; have HO364 := n0_; have HO367 := n1_; have HB := n2_; clear n0_ n1_ n2_; (try clear hb); (try clear hb2); (try clear hk); (try clear hi); (try clear ho0); obtain ⟨Ao18, co18, eo18⟩ := Kd.R_slice HO367.out; subst eo18) | ((with_reducible refine gate_callee (f := 7) rfl ?_); refine goesA (some 19) Tryz.func7 #[.slice Ao18 t365.length co18] ?_; (with_reducible refine (caduceusref04_Sort.calls k _ _ t365 t368 t369 _ ?side1 ?side2 A6.out).mono ?_); (case side1 => repeat (first | exact (Kd.R_reads' HO367.out).2.2 | (with_reducible refine Kd.C_alloc ?_ _) | (with_reducible refine Kd.C_drewN ?_ _) | (with_reducible refine Kd.C_drew ?_))); (case side2 => exact (Kd.R_reads' HO367.out).2.1); rintro e w19 ⟨v370, rfl, ho0, hb⟩; refine ⟨_, rfl, ?_⟩; have n0_ := Aside0.mk (Kd.R_below (by (with_reducible repeat (first | apply Kd.R_alloc | apply Kd.R_drewN | apply Kd.R_drew)); exact HO364.out) hb); have n1_ := Aside0.mk (Kd.R_elder' (by (with_reducible repeat (first | apply Kd.R_alloc | apply Kd.R_drewN | apply Kd.R_drew)); exact HO367.out) (Kd.R_base ho0) hb); have n2_ := Aside0.mk (Kd.R_lower (Kd.R_new' ho0 (Kd.R_lt (by (with_reducible repeat (first | apply Kd.R_alloc | apply Kd.R_drewN | apply Kd.R_drew)); exact HO367.out))) (below_size (bwA))); have n3_ := Aside0.mk (below_step (bwA) hb); clear HO364; clear HO367; clear HB; have HO364 := n0_; have HO367 := n1_; have HO371 := n2_; have HB := n3_; clear n0_ n1_ n2_ n3_; (try clear hb); (try clear hb2); (try clear hk); (try clear hi); (try clear ho0)) | ((with_reducible refine gate_callee (f := 5) rfl ?_); refine goesA (some 22) Tryz.func5 #[] ?_; (with_reducible refine (caduceuslaw04_awake.calls k  true _ ?side1 A7.out).mono ?_); (case side1 => exact Tabs.below HT.out (bwA)); rintro e w20 ⟨rfl, hb⟩; refine ⟨_, rfl, ?_⟩; have n0_ := Aside0.mk (Kd.R_below (by (with_reducible repeat (first | apply Kd.R_alloc | apply Kd.R_drewN | apply Kd.R_drew)); exact HO364.out) hb); have n1_ := Aside0.mk (Kd.R_below (by (with_reducible repeat (first | apply Kd.R_alloc | apply Kd.R_drewN | apply Kd.R_drew)); exact HO367.out) hb); have n2_ := Aside0.mk (Kd.R_below (by (with_reducible repeat (first | apply Kd.R_alloc | apply Kd.R_drewN | apply Kd.R_drew)); exact HO371.out) hb); have n3_ := Aside0.mk (below_step (bwA) hb); clear HO364; clear HO367; clear HO371; clear HB; have HO364 := n0_; have HO367 := n1_; have HO371 := n2_; have HB := n3_; clear n0_ n1_ n2_ n3_; (try clear hb); (try clear hb2); (try clear hk); (try clear hi)) | (go_at_call 9; (with_reducible refine (schema_Check.calls k _ _ l0 t373 _ ?side1 ?side2 ?side3 A9.out).mono ?_); (case side1 => repeat (first | exact (Kd.C_below HR0.out HB.out) | (with_reducible refine Kd.C_alloc ?_ _) | (with_reducible refine Kd.C_drewN ?_ _) | (with_reducible refine Kd.C_drew ?_))); (case side2 => exact HC0.out); (case side3 => exact Tabs.below HT.out (bwA)); rintro e w21 ⟨rfl, hb⟩; have n0_ := Aside0.mk (Kd.R_below (by (with_reducible repeat (first | apply Kd.R_alloc | apply Kd.R_drewN | apply Kd.R_drew)); exact HO364.out) hb); have n1_ := Aside0.mk (Kd.R_below (by (with_reducible repeat (first | apply Kd.R_alloc | apply Kd.R_drewN | apply Kd.R_drew)); exact HO367.out) hb); have n2_ := Aside0.mk (Kd.R_below (by (with_reducible repeat (first | apply Kd.R_alloc | apply Kd.R_drewN | apply Kd.R_drew)); exact HO371.out) hb); have n3_ := Aside0.mk (below_step (bwA) hb); clear HO364; clear HO367; clear HO371; clear HB; have HO364 := n0_; have HO367 := n1_; have HO371 := n2_; have HB := n3_; clear n0_ n1_ n2_ n3_; (try clear hb); (try clear hb2); (try clear hk); (try clear hi)) | (go_at_call 8; (with_reducible refine (caduceuslaw04_Refs.calls k _ _ l0 t374 _ ?side1 ?side2 A10.out).mono ?_); (case side1 => repeat (first | exact (Kd.C_below HR0.out HB.out) | (with_reducible refine Kd.C_alloc ?_ _) | (with_reducible refine Kd.C_drewN ?_ _) | (with_reducible refine Kd.C_drew ?_))); (case side2 => exact HC0.out); rintro e w22 ⟨v375, rfl, ho0, hb⟩; have n0_ := Aside0.mk (Kd.R_below (by (with_reducible repeat (first | apply Kd.R_alloc | apply Kd.R_drewN | apply Kd.R_drew)); exact HO364.out) hb); have n1_ := Aside0.mk (Kd.R_elder' (by (with_reducible repeat (first | apply Kd.R_alloc | apply Kd.R_drewN | apply Kd.R_drew)); exact HO367.out) (Kd.R_base ho0) hb); have n2_ := Aside0.mk (Kd.R_elder' (by (with_reducible repeat (first | apply Kd.R_alloc | apply Kd.R_drewN | apply Kd.R_drew)); exact HO371.out) (Kd.R_base ho0) hb); have n3_ := Aside0.mk (Kd.R_lower (Kd.R_new' (Kd.R_new' ho0 (Kd.R_lt (by (with_reducible repeat (first | apply Kd.R_alloc | apply Kd.R_drewN | apply Kd.R_drew)); exact HO367.out))) (Kd.R_lt (by (with_reducible repeat (first | apply Kd.R_alloc | apply Kd.R_drewN | apply Kd.R_drew)); exact HO371.out))) (below_size (bwA))); have n4_ := Aside0.mk (below_step (bwA) hb); clear HO364; clear HO367; clear HO371; clear HB; have HO364 := n0_; have HO367 := n1_; have HO371 := n2_; have HO376 := n3_; have HB := n4_; clear n0_ n1_ n2_ n3_ n4_; (try clear hb); (try clear hb2); (try clear hk); (try clear hi); (try clear ho0); obtain ⟨Ao23, co23, eo23⟩ := Kd.R_slice HO376.out; subst eo23) | (go_at_call 10; (with_reducible refine (caduceusref04_Check.calls k _ _ t374 t377 _ ?side1 ?side2 A11.out).mono ?_); (case side1 => repeat (first | exact (Kd.R_reads' HO376.out).2.2 | (with_reducible refine Kd.C_alloc ?_ _) | (with_reducible refine Kd.C_drewN ?_ _) | (with_reducible refine Kd.C_drew ?_))); (case side2 => exact (Kd.R_reads' HO376.out).2.1); rintro e w24 ⟨rfl, hb⟩; have n0_ := Aside0.mk (Kd.R_below (by (with_reducible repeat (first | apply Kd.R_alloc | apply Kd.R_drewN | apply Kd.R_drew)); exact HO364.out) hb); have n1_ := Aside0.mk (Kd.R_below (by (with_reducible repeat (first | apply Kd.R_alloc | apply Kd.R_drewN | apply Kd.R_drew)); exact HO367.out) hb); have n2_ := Aside0.mk (Kd.R_below (by (with_reducible repeat (first | apply Kd.R_alloc | apply Kd.R_drewN | apply Kd.R_drew)); exact HO371.out) hb); have n3_ := Aside0.mk (Kd.R_below (by (with_reducible repeat (first | apply Kd.R_alloc | apply Kd.R_drewN | apply Kd.R_drew)); exact HO376.out) hb); have n4_ := Aside0.mk (below_step (bwA) hb); clear HO364; clear HO367; clear HO371; clear HO376; clear HB; have HO364 := n0_; have HO367 := n1_; have HO371 := n2_; have HO376 := n3_; have HB := n4_; clear n0_ n1_ n2_ n3_ n4_; (try clear hb); (try clear hb2); (try clear hk); (try clear hi); obtain ⟨Ao25, co25, eo25⟩ := Kd.R_slice HO364.out; subst eo25) | (go_at_call 8; (with_reducible refine (caduceuslaw04_Refs.calls k _ _ t361 t378 _ ?side1 ?side2 A13.out).mono ?_); (case side1 => repeat (first | exact (Kd.R_reads' HO364.out).2.2 | (with_reducible refine Kd.C_alloc ?_ _) | (with_reducible refine Kd.C_drewN ?_ _) | (with_reducible refine Kd.C_drew ?_))); (case side2 => exact (Kd.R_reads' HO364.out).2.1); rintro e w26 ⟨v379, rfl, ho0, hb⟩; have n0_ := Aside0.mk (Kd.R_below (by (with_reducible repeat (first | apply Kd.R_alloc | apply Kd.R_drewN | apply Kd.R_drew)); exact HO364.out) hb); have n1_ := Aside0.mk (Kd.R_elder' (by (with_reducible repeat (first | apply Kd.R_alloc | apply Kd.R_drewN | apply Kd.R_drew)); exact HO367.out) (Kd.R_base ho0) hb); have n2_ := Aside0.mk (Kd.R_elder' (by (with_reducible repeat (first | apply Kd.R_alloc | apply Kd.R_drewN | apply Kd.R_drew)); exact HO371.out) (Kd.R_base ho0) hb); have n3_ := Aside0.mk (Kd.R_elder' (by (with_reducible repeat (first | apply Kd.R_alloc | apply Kd.R_drewN | apply Kd.R_drew)); exact HO376.out) (Kd.R_base ho0) hb); have n4_ := Aside0.mk (Kd.R_lower (Kd.R_new' (Kd.R_new' (Kd.R_new' ho0 (Kd.R_lt (by (with_reducible repeat (first | apply Kd.R_alloc | apply Kd.R_drewN | apply Kd.R_drew)); exact HO367.out))) (Kd.R_lt (by (with_reducible repeat (first | apply Kd.R_alloc | apply Kd.R_drewN | apply Kd.R_drew)); exact HO371.out))) (Kd.R_lt (by (with_reducible repeat (first | apply Kd.R_alloc | apply Kd.R_drewN | apply Kd.R_drew)); exact HO376.out))) (below_size (bwA))); have n5_ := Aside0.mk (below_step (bwA) hb); clear HO364; clear HO367; clear HO371; clear HO376; clear HB; have HO364 := n0_; have HO367 := n1_; have HO371 := n2_; have HO376 := n3_; have HO380 := n4_; have HB := n5_; clear n0_ n1_ n2_ n3_ n4_ n5_; (try clear hb); (try clear hb2); (try clear hk); (try clear hi); (try clear ho0); obtain ⟨Ao27, co27, eo27⟩ := Kd.R_slice HO380.out; subst eo27; obtain ⟨Ao28, co28, eo28⟩ := Kd.R_slice HO371.out; subst eo28) | (go_at_call 11; (with_reducible refine (caduceusref04_Same.calls k _ _ t378 _ _ t368 true _ ?side1 ?side2 ?side3 ?side4 A14.out).mono ?_); (case side1 => repeat (first | exact (Kd.R_reads' HO380.out).2.2 | (with_reducible refine Kd.C_alloc ?_ _) | (with_reducible refine Kd.C_drewN ?_ _) | (with_reducible refine Kd.C_drew ?_))); (case side2 => exact (Kd.R_reads' HO380.out).2.1); (case side3 => repeat (first | exact (Kd.R_reads' HO371.out).2.2 | (with_reducible refine Kd.C_alloc ?_ _) | (with_reducible refine Kd.C_drewN ?_ _) | (with_reducible refine Kd.C_drew ?_))); (case side4 => exact (Kd.R_reads' HO371.out).2.1); rintro e w' ⟨rfl, ⟨nd, rfl⟩⟩))
     go_ret
     exact ⟨endA, bwA⟩
    ·replace c15 := Bool.eq_false_iff.mpr c15
     subst c15
     have H1 : (none) = some r := by rw [if_neg (show ¬ (false = true) by decide)] at H; exact H
     clear H
     have H := H1
     clear H1
     exact absurd H (by simp)
   ·rw [if_neg c12] at H
    exact absurd H (by simp)
  ·replace c8 := Bool.eq_false_iff.mpr c8
   subst c8
   have H1 : (none) = some r := by rw [if_neg (show ¬ (false = true) by decide)] at H; exact H
   clear H
   have H := H1
   clear H1
   exact absurd H (by simp)
 ·replace c3 := Bool.eq_false_iff.mpr c3
  subst c3
  have H1 : ((caduceuslaw04_awake.f k).bind fun t360 => (some t360)) = some r := by rw [if_neg (show ¬ (false = true) by decide)] at H; exact H
  clear H
  have H := H1
  clear H1
  replace H := Option.bind_eq_some_iff.mp H
  obtain ⟨t360, A290, H⟩ := H
  replace H : (some t360) = some r := H
  have A29 := Aside0.mk A290
  clear A290
  obtain rfl := Option.some.inj H
  go_enter Tryz.func3, Tryz.ntmps3
  go_wp2_with (first | ((with_reducible refine gate_callee (f := 4) rfl ?_); refine goesA (some 8) Tryz.func4 #[.slice A0 l0.length c0] ?_; (with_reducible refine (caduceuslaw04_Few.calls k _ _ l0 false _ ?side1 ?side2 A2.out).mono ?_); (case side1 => repeat (first | exact HR0.out | (with_reducible refine Kd.C_alloc ?_ _) | (with_reducible refine Kd.C_drewN ?_ _) | (with_reducible refine Kd.C_drew ?_))); (case side2 => exact HC0.out); rintro e w' ⟨rfl, ⟨nd, rfl⟩⟩; refine ⟨_, rfl, ?_⟩) | ((with_reducible refine gate_callee (f := 5) rfl ?_); refine goesA (some 10) Tryz.func5 #[] ?_; (with_reducible refine (caduceuslaw04_awake.calls k  t360 _ ?side1 A29.out).mono ?_); (case side1 => exact Tabs.below HT.out (bwA)); rintro e w30 ⟨rfl, hb⟩; refine ⟨_, rfl, ?_⟩; have n0_ := Aside0.mk (below_step (bwA) hb); clear HB; have HB := n0_; clear n0_; (try clear hb); (try clear hb2); (try clear hk); (try clear hi)))
  go_ret
  exact ⟨endA, bwA⟩

end Go.Proofs.YtbbfggfiknbdmaaGreatDoor.A
