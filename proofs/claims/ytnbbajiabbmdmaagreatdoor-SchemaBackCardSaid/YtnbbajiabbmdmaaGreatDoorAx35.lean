-- By drv.py, the session's own driver round the kit's print: the machine's side of the laws, function by function. Not trusted: Lean checks it.
import Derived.Test.YtnbbajiabbmdmaaGreatDoorAx0
import Derived.Test.YtnbbajiabbmdmaaGreatDoorAx7
import Derived.Test.YtnbbajiabbmdmaaGreatDoorAx9
import Derived.Test.YtnbbajiabbmdmaaGreatDoorAx11
import Derived.Test.YtnbbajiabbmdmaaGreatDoorAx12
import Derived.Test.YtnbbajiabbmdmaaGreatDoorAx13
import Derived.Test.YtnbbajiabbmdmaaGreatDoorAx14
import Derived.Test.YtnbbajiabbmdmaaGreatDoorAx15
import Derived.Test.YtnbbajiabbmdmaaGreatDoorAx18
import Derived.Test.YtnbbajiabbmdmaaGreatDoorAx21
import Derived.Test.YtnbbajiabbmdmaaGreatDoorAx22
import Derived.Test.YtnbbajiabbmdmaaGreatDoorAx24
import Derived.Test.YtnbbajiabbmdmaaGreatDoorAx34
namespace Go.Proofs.YtnbbajiabbmdmaaGreatDoor.A
open Go.RowKit Go.Proofs.YtnbbajiabbmdmaaGreatDoorW.PrintWords Go.Proofs.YtnbbajiabbmdmaaGreatDoorW.PrintLast Go.Proofs.YtnbbajiabbmdmaaGreatDoorW.PrintMore
attribute [local go_sem] max2_int min2_int max_two min_two max_three min_three max_four min_four   -- for this text's walks alone
set_option linter.unusedVariables false
set_option linter.unusedSimpArgs false

/-! ### caduceuslaw04_SchemaBack: function 6 -/
mutual
def caduceuslaw04_SchemaBack.j0 : Nat → List (S62) → List (S44) → ByteArray → Bool → Option (Bool)
 | 0, _, _, _, _ => none
 | k + 1, x0, x1, x2, x27 => if x27 = true then ((caduceuslaw04_awake.f k).bind fun t590 => (some t590)) else ((schema_Check.f k x0).bind fun t591 => (if t591 = true then ((schema_Show.f k x0).bind fun t592 => ((schema_Parse.f k t592).bind fun bt593 => ((schema_Text.f k x0).bind fun t597 => (if t597.size + x2.size ≤ 9223372036854775807 then ((schema_Read.f k (t597 ++ x2)).bind fun bt598 => (if bt593.2 = 0 then (if bt598.2.2 = 0 then (if bt598.2.1.toList = x2.toList then ((caduceuslaw04_Refs.f k bt593.1).bind fun t603 => ((caduceuslaw04_Refs.f k x0).bind fun t606 => ((caduceusref04_Same.f k t603 t606).bind fun t609 => (if t609 = true then ((caduceuslaw04_Refs.f k bt598.1).bind fun t610 => ((caduceuslaw04_Refs.f k x0).bind fun t613 => ((caduceusref04_Same.f k t610 t613).bind fun t616 => (if t616 = true then (caduceuslaw04_SchemaBack.j1 k x1 x2) else (none))))) else (none))))) else (none)) else (none)) else (none))) else (none))))) else (caduceuslaw04_SchemaBack.j1 k x1 x2)))
def caduceuslaw04_SchemaBack.j1 : Nat → List (S44) → ByteArray → Option (Bool)
 | 0, _, _ => none
 | k + 1, x1, x2 => (schema_Attrs.f k x1).bind fun t617 => (if t617 = true then ((schema_AttrText.f k x1).bind fun t620 => (if t620.size + x2.size ≤ 9223372036854775807 then ((schema_ReadAttrs.f k (t620 ++ x2)).bind fun bt621 => ((caduceuslaw04_awake.f k).bind fun t626 => (if t626 = true then (if bt621.2.2 = 0 then (if bt621.2.1.toList = x2.toList then ((caduceuslaw04_Attrs.f k bt621.1).bind fun t627 => ((caduceuslaw04_Attrs.f k x1).bind fun t630 => ((caduceusref04_SameAttrs.f k t627 t630).bind fun t633 => (some t633)))) else (none)) else (none)) else (none)))) else (none))) else ((caduceuslaw04_awake.f k).bind fun t618 => (if t618 = true then ((schema_AttrText.f k x1).bind fun t619 => (some (t619.toList == ([] : List UInt8)))) else (none))))
end
def caduceuslaw04_SchemaBack.f (k : Nat) (l0 : List (S62)) (l1 : List (S44)) (a2 : ByteArray) : Option (Bool) := (caduceuslaw04_Few.f k l0).bind fun t588 => (if t588 = true then ((caduceuslaw04_FewAttrs.f k l1).bind fun t589 => (if t589 = true then (caduceuslaw04_SchemaBack.j0 k l0 l1 a2 (decide ((a2.size : Int) > 500))) else (caduceuslaw04_SchemaBack.j0 k l0 l1 a2 true))) else (caduceuslaw04_SchemaBack.j0 k l0 l1 a2 true))
theorem caduceuslaw04_SchemaBack.mono_l : ∀ k, (∀ y0 y1 y2 y3, LeO (caduceuslaw04_SchemaBack.j0 k y0 y1 y2 y3) (caduceuslaw04_SchemaBack.j0 (k + 1) y0 y1 y2 y3)) ∧ (∀ y0 y1, LeO (caduceuslaw04_SchemaBack.j1 k y0 y1) (caduceuslaw04_SchemaBack.j1 (k + 1) y0 y1))
 | 0 => ⟨fun _ _ _ _ r h => by simp [caduceuslaw04_SchemaBack.j0] at h, fun _ _ r h => by simp [caduceuslaw04_SchemaBack.j1] at h⟩
 | k + 1 => by
  obtain ⟨ih0, ih1⟩ := caduceuslaw04_SchemaBack.mono_l k
  refine ⟨?_, ?_⟩
  all_goals intros
  all_goals first | unfold caduceuslaw04_SchemaBack.j0 | unfold caduceuslaw04_SchemaBack.j1
  all_goals repeat' first
   | (with_reducible exact ih0 _ _ _ _)
   | (with_reducible exact ih1 _ _)
   | (with_reducible exact caduceuslaw04_Attrs.mono _ _)
   | (with_reducible exact caduceuslaw04_Few.mono _ _)
   | (with_reducible exact caduceuslaw04_FewAttrs.mono _ _)
   | (with_reducible exact caduceuslaw04_Refs.mono _ _)
   | (with_reducible exact caduceuslaw04_awake.mono _)
   | (with_reducible exact caduceusref04_Same.mono _ _ _)
   | (with_reducible exact caduceusref04_SameAttrs.mono _ _ _)
   | (with_reducible exact schema_AttrText.mono _ _)
   | (with_reducible exact schema_Attrs.mono _ _)
   | (with_reducible exact schema_Check.mono _ _)
   | (with_reducible exact schema_Parse.mono _ _)
   | (with_reducible exact schema_Read.mono _ _)
   | (with_reducible exact schema_ReadAttrs.mono _ _)
   | (with_reducible exact schema_Show.mono _ _)
   | (with_reducible exact schema_Text.mono _ _)
   | (with_reducible exact LeO.refl _)
   | (with_reducible exact LeO.none _)
   | (with_reducible refine LeO.ite ?_ ?_)
   | (with_reducible refine LeO.bind ?_ (fun _ => ?_))
   | exact ih0 _ _ _ _
   | exact ih1 _ _
   | exact caduceuslaw04_Attrs.mono _ _
   | exact caduceuslaw04_Few.mono _ _
   | exact caduceuslaw04_FewAttrs.mono _ _
   | exact caduceuslaw04_Refs.mono _ _
   | exact caduceuslaw04_awake.mono _
   | exact caduceusref04_Same.mono _ _ _
   | exact caduceusref04_SameAttrs.mono _ _ _
   | exact schema_AttrText.mono _ _
   | exact schema_Attrs.mono _ _
   | exact schema_Check.mono _ _
   | exact schema_Parse.mono _ _
   | exact schema_Read.mono _ _
   | exact schema_ReadAttrs.mono _ _
   | exact schema_Show.mono _ _
   | exact schema_Text.mono _ _
   | exact LeO.none _
   | refine LeO.ite ?_ ?_
   | refine LeO.bind ?_ (fun _ => ?_)
theorem caduceuslaw04_SchemaBack.mono : ∀ a0 a1 a2 k, LeO (caduceuslaw04_SchemaBack.f k a0 a1 a2) (caduceuslaw04_SchemaBack.f (k + 1) a0 a1 a2) := by
 intro a0 a1 a2 k
 obtain ⟨ih0, ih1⟩ := caduceuslaw04_SchemaBack.mono_l k
 unfold caduceuslaw04_SchemaBack.f
 repeat' first
   | (with_reducible exact ih0 _ _ _ _)
   | (with_reducible exact ih1 _ _)
   | (with_reducible exact caduceuslaw04_Attrs.mono _ _)
   | (with_reducible exact caduceuslaw04_Few.mono _ _)
   | (with_reducible exact caduceuslaw04_FewAttrs.mono _ _)
   | (with_reducible exact caduceuslaw04_Refs.mono _ _)
   | (with_reducible exact caduceuslaw04_awake.mono _)
   | (with_reducible exact caduceusref04_Same.mono _ _ _)
   | (with_reducible exact caduceusref04_SameAttrs.mono _ _ _)
   | (with_reducible exact schema_AttrText.mono _ _)
   | (with_reducible exact schema_Attrs.mono _ _)
   | (with_reducible exact schema_Check.mono _ _)
   | (with_reducible exact schema_Parse.mono _ _)
   | (with_reducible exact schema_Read.mono _ _)
   | (with_reducible exact schema_ReadAttrs.mono _ _)
   | (with_reducible exact schema_Show.mono _ _)
   | (with_reducible exact schema_Text.mono _ _)
   | (with_reducible exact LeO.refl _)
   | (with_reducible exact LeO.none _)
   | (with_reducible refine LeO.ite ?_ ?_)
   | (with_reducible refine LeO.bind ?_ (fun _ => ?_))
   | exact ih0 _ _ _ _
   | exact ih1 _ _
   | exact caduceuslaw04_Attrs.mono _ _
   | exact caduceuslaw04_Few.mono _ _
   | exact caduceuslaw04_FewAttrs.mono _ _
   | exact caduceuslaw04_Refs.mono _ _
   | exact caduceuslaw04_awake.mono _
   | exact caduceusref04_Same.mono _ _ _
   | exact caduceusref04_SameAttrs.mono _ _ _
   | exact schema_AttrText.mono _ _
   | exact schema_Attrs.mono _ _
   | exact schema_Check.mono _ _
   | exact schema_Parse.mono _ _
   | exact schema_Read.mono _ _
   | exact schema_ReadAttrs.mono _ _
   | exact schema_Show.mono _ _
   | exact schema_Text.mono _ _
   | exact LeO.none _
   | refine LeO.ite ?_ ?_
   | refine LeO.bind ?_ (fun _ => ?_)
set_option maxHeartbeats 8000000 in
set_option maxRecDepth 100000 in
theorem caduceuslaw04_SchemaBack.calls (k : Nat) (A0 : Option Addr) (c0 : Nat) (l0 : List (S62)) (A1 : Option Addr) (c1 : Nat) (l1 : List (S44)) (a2 : ByteArray) (r : Bool) (w : World) (hr0 : Kd.C k62 w A0 l0.length l0) (hc0 : l0.length ≤ c0) (hr1 : Kd.C k44 w A1 l1.length l1) (hc1 : l1.length ≤ c1) (hT : Tabs w) (h : caduceuslaw04_SchemaBack.f k l0 l1 a2 = some r) :
  Calls Tryz.prog 6 #[.slice A0 l0.length c0, .slice A1 l1.length c1, .string a2] w fun e w' => e = .returned (.bool r) ∧ Below w.heap.size w w' := by
 have HR0 := Aside0.mk hr0
 have HC0 := Aside0.mk hc0
 clear hr0 hc0
 have HR1 := Aside0.mk hr1
 have HC1 := Aside0.mk hc1
 clear hr1 hc1
 have HB := Aside0.mk (Below.refl w.heap.size w)
 have H : ((caduceuslaw04_Few.f k l0).bind fun t588 => (if t588 = true then ((caduceuslaw04_FewAttrs.f k l1).bind fun t589 => (if t589 = true then (caduceuslaw04_SchemaBack.j0 k l0 l1 a2 (decide ((a2.size : Int) > 500))) else (caduceuslaw04_SchemaBack.j0 k l0 l1 a2 true))) else (caduceuslaw04_SchemaBack.j0 k l0 l1 a2 true))) = some r := h
 clear h
 have HT := Aside0.mk hT
 clear hT
 have HC4 := Aside0.mk H
 clear H
 go_enter Tryz.func6, Tryz.ntmps6
 go_upto_region 1 with (fail)
 go_cut [27] (fun v27 wc => ∃ (kq : Nat) (x27_3 : Bool), v27 = .bool x27_3 ∧ Aside0 (caduceuslaw04_SchemaBack.j0 kq l0 l1 a2 x27_3 = some r) ∧ Aside0 (kq ≤ k) ∧ Aside0 (Below w.heap.size w wc))
 case first =>
  have H := HC4.out
  clear HC4
  replace H := Option.bind_eq_some_iff.mp H
  obtain ⟨t588, A50, H⟩ := H
  replace H : (if t588 = true then ((caduceuslaw04_FewAttrs.f k l1).bind fun t589 => (if t589 = true then (caduceuslaw04_SchemaBack.j0 k l0 l1 a2 (decide ((a2.size : Int) > 500))) else (caduceuslaw04_SchemaBack.j0 k l0 l1 a2 true))) else (caduceuslaw04_SchemaBack.j0 k l0 l1 a2 true)) = some r := H
  have A5 := Aside0.mk A50
  clear A50
  by_cases c6 : t588 = true
  ·subst c6
   have H1 : ((caduceuslaw04_FewAttrs.f k l1).bind fun t589 => (if t589 = true then (caduceuslaw04_SchemaBack.j0 k l0 l1 a2 (decide ((a2.size : Int) > 500))) else (caduceuslaw04_SchemaBack.j0 k l0 l1 a2 true))) = some r := by rw [if_pos rfl] at H; exact H
   clear H
   have H := H1
   clear H1
   replace H := Option.bind_eq_some_iff.mp H
   obtain ⟨t589, A70, H⟩ := H
   replace H : (if t589 = true then (caduceuslaw04_SchemaBack.j0 k l0 l1 a2 (decide ((a2.size : Int) > 500))) else (caduceuslaw04_SchemaBack.j0 k l0 l1 a2 true)) = some r := H
   have A7 := Aside0.mk A70
   clear A70
   by_cases c8 : t589 = true
   ·subst c8
    have H1 : (caduceuslaw04_SchemaBack.j0 k l0 l1 a2 (decide ((a2.size : Int) > 500))) = some r := by rw [if_pos rfl] at H; exact H
    clear H
    have H := H1
    clear H1
    have H' := Aside0.mk H
    clear H
    go_wp2_with (first | ((with_reducible refine gate_callee (f := 8) rfl ?_); refine goesA (some 16) Tryz.func8 #[.slice A0 l0.length c0] ?_; (with_reducible refine (caduceuslaw04_Few.calls k _ _ l0 true _ ?side1 ?side2 A5.out).mono ?_); (case side1 => repeat (first | exact (Kd.C_below HR0.out HB.out) | (with_reducible refine Kd.C_alloc ?_ _) | (with_reducible refine Kd.C_drewN ?_ _) | (with_reducible refine Kd.C_drew ?_))); (case side2 => exact HC0.out); rintro e w' ⟨rfl, ⟨nd, rfl⟩⟩; refine ⟨_, rfl, ?_⟩) | (go_at_call 16; (with_reducible refine (caduceuslaw04_FewAttrs.calls k _ _ l1 true _ ?side1 ?side2 A7.out).mono ?_); (case side1 => repeat (first | exact (Kd.C_below HR1.out (bwA)) | (with_reducible refine Kd.C_alloc ?_ _) | (with_reducible refine Kd.C_drewN ?_ _) | (with_reducible refine Kd.C_drew ?_))); (case side2 => exact HC1.out); rintro e w' ⟨rfl, ⟨nd, rfl⟩⟩))
    go_meet
    case rel => exact ⟨_, (decide ((a2.size : Int) > 500)), (endS), H', ⟨by first | omega | exact Nat.le_refl _⟩, ⟨bwA⟩⟩
   ·replace c8 := Bool.eq_false_iff.mpr c8
    subst c8
    have H1 : (caduceuslaw04_SchemaBack.j0 k l0 l1 a2 true) = some r := by rw [if_neg (show ¬ (false = true) by decide)] at H; exact H
    clear H
    have H := H1
    clear H1
    have H' := Aside0.mk H
    clear H
    go_wp2_with (first | ((with_reducible refine gate_callee (f := 8) rfl ?_); refine goesA (some 16) Tryz.func8 #[.slice A0 l0.length c0] ?_; (with_reducible refine (caduceuslaw04_Few.calls k _ _ l0 true _ ?side1 ?side2 A5.out).mono ?_); (case side1 => repeat (first | exact (Kd.C_below HR0.out HB.out) | (with_reducible refine Kd.C_alloc ?_ _) | (with_reducible refine Kd.C_drewN ?_ _) | (with_reducible refine Kd.C_drew ?_))); (case side2 => exact HC0.out); rintro e w' ⟨rfl, ⟨nd, rfl⟩⟩; refine ⟨_, rfl, ?_⟩) | (go_at_call 16; (with_reducible refine (caduceuslaw04_FewAttrs.calls k _ _ l1 false _ ?side1 ?side2 A7.out).mono ?_); (case side1 => repeat (first | exact (Kd.C_below HR1.out (bwA)) | (with_reducible refine Kd.C_alloc ?_ _) | (with_reducible refine Kd.C_drewN ?_ _) | (with_reducible refine Kd.C_drew ?_))); (case side2 => exact HC1.out); rintro e w' ⟨rfl, ⟨nd, rfl⟩⟩))
    go_meet
    case rel => exact ⟨_, (true), (endS), H', ⟨by first | omega | exact Nat.le_refl _⟩, ⟨bwA⟩⟩
  ·replace c6 := Bool.eq_false_iff.mpr c6
   subst c6
   have H1 : (caduceuslaw04_SchemaBack.j0 k l0 l1 a2 true) = some r := by rw [if_neg (show ¬ (false = true) by decide)] at H; exact H
   clear H
   have H := H1
   clear H1
   have H' := Aside0.mk H
   clear H
   go_wp2_with (first | ((with_reducible refine gate_callee (f := 8) rfl ?_); refine goesA (some 16) Tryz.func8 #[.slice A0 l0.length c0] ?_; (with_reducible refine (caduceuslaw04_Few.calls k _ _ l0 false _ ?side1 ?side2 A5.out).mono ?_); (case side1 => repeat (first | exact (Kd.C_below HR0.out HB.out) | (with_reducible refine Kd.C_alloc ?_ _) | (with_reducible refine Kd.C_drewN ?_ _) | (with_reducible refine Kd.C_drew ?_))); (case side2 => exact HC0.out); rintro e w' ⟨rfl, ⟨nd, rfl⟩⟩; refine ⟨_, rfl, ?_⟩))
   go_meet
   case rel => exact ⟨_, (true), (endS), H', ⟨by first | omega | exact Nat.le_refl _⟩, ⟨bwA⟩⟩
 case rest =>
  clear HC4
  try clear c1
  try clear p2
  try clear c6
  try clear c8
  obtain ⟨kq, x27_3, rfl, HA, HJ3, HB⟩ := hcut
  cases kq with
  | zero => exact absurd HA.out (by simp [caduceuslaw04_SchemaBack.j0])
  | succ kj3 =>
   have H := HA.out
   clear HA
   simp only [caduceuslaw04_SchemaBack.j0] at H
   by_cases c9 : x27_3 = true
   ·subst c9
    have H1 : ((caduceuslaw04_awake.f kj3).bind fun t590 => (some t590)) = some r := by rw [if_pos rfl] at H; exact H
    clear H
    have H := H1
    clear H1
    replace H := Option.bind_eq_some_iff.mp H
    obtain ⟨t590, A100, H⟩ := H
    replace H : (some t590) = some r := H
    have A10 := Aside0.mk A100
    clear A100
    obtain rfl := Option.some.inj H
    go_wp2_with (first | ((with_reducible refine gate_callee (f := 9) rfl ?_); refine goesA (some 28) Tryz.func9 #[] ?_; (with_reducible refine (caduceuslaw04_awake.calls kj3  t590 _ ?side1 A10.out).mono ?_); (case side1 => exact Tabs.below HT.out (bwA)); rintro e w11 ⟨rfl, hb⟩; refine ⟨_, rfl, ?_⟩; have n0_ := Aside0.mk (below_step (bwA) hb); clear HB; have HB := n0_; clear n0_; (try clear hb); (try clear hb2); (try clear hk); (try clear hi)))
    go_ret
    exact ⟨endA, bwA⟩
   ·replace c9 := Bool.eq_false_iff.mpr c9
    subst c9
    have H1 : ((schema_Check.f kj3 l0).bind fun t591 => (if t591 = true then ((schema_Show.f kj3 l0).bind fun t592 => ((schema_Parse.f kj3 t592).bind fun bt593 => ((schema_Text.f kj3 l0).bind fun t597 => (if t597.size + a2.size ≤ 9223372036854775807 then ((schema_Read.f kj3 (t597 ++ a2)).bind fun bt598 => (if bt593.2 = 0 then (if bt598.2.2 = 0 then (if bt598.2.1.toList = a2.toList then ((caduceuslaw04_Refs.f kj3 bt593.1).bind fun t603 => ((caduceuslaw04_Refs.f kj3 l0).bind fun t606 => ((caduceusref04_Same.f kj3 t603 t606).bind fun t609 => (if t609 = true then ((caduceuslaw04_Refs.f kj3 bt598.1).bind fun t610 => ((caduceuslaw04_Refs.f kj3 l0).bind fun t613 => ((caduceusref04_Same.f kj3 t610 t613).bind fun t616 => (if t616 = true then (caduceuslaw04_SchemaBack.j1 kj3 l1 a2) else (none))))) else (none))))) else (none)) else (none)) else (none))) else (none))))) else (caduceuslaw04_SchemaBack.j1 kj3 l1 a2))) = some r := by rw [if_neg (show ¬ (false = true) by decide)] at H; exact H
    clear H
    have H := H1
    clear H1
    replace H := Option.bind_eq_some_iff.mp H
    obtain ⟨t591, A120, H⟩ := H
    replace H : (if t591 = true then ((schema_Show.f kj3 l0).bind fun t592 => ((schema_Parse.f kj3 t592).bind fun bt593 => ((schema_Text.f kj3 l0).bind fun t597 => (if t597.size + a2.size ≤ 9223372036854775807 then ((schema_Read.f kj3 (t597 ++ a2)).bind fun bt598 => (if bt593.2 = 0 then (if bt598.2.2 = 0 then (if bt598.2.1.toList = a2.toList then ((caduceuslaw04_Refs.f kj3 bt593.1).bind fun t603 => ((caduceuslaw04_Refs.f kj3 l0).bind fun t606 => ((caduceusref04_Same.f kj3 t603 t606).bind fun t609 => (if t609 = true then ((caduceuslaw04_Refs.f kj3 bt598.1).bind fun t610 => ((caduceuslaw04_Refs.f kj3 l0).bind fun t613 => ((caduceusref04_Same.f kj3 t610 t613).bind fun t616 => (if t616 = true then (caduceuslaw04_SchemaBack.j1 kj3 l1 a2) else (none))))) else (none))))) else (none)) else (none)) else (none))) else (none))))) else (caduceuslaw04_SchemaBack.j1 kj3 l1 a2)) = some r := H
    have A12 := Aside0.mk A120
    clear A120
    have HC13 := Aside0.mk H
    clear H
    go_upto_if 30 with (first | ((with_reducible refine gate_callee (f := 13) rfl ?_); refine goesA (some 30) Tryz.func13 #[.slice A0 l0.length c0] ?_; (with_reducible refine (schema_Check.calls kj3 _ _ l0 t591 _ ?side1 ?side2 ?side3 A12.out).mono ?_); (case side1 => repeat (first | exact (Kd.C_below HR0.out HB.out) | (with_reducible refine Kd.C_alloc ?_ _) | (with_reducible refine Kd.C_drewN ?_ _) | (with_reducible refine Kd.C_drew ?_))); (case side2 => exact HC0.out); (case side3 => exact Tabs.below HT.out (bwA)); rintro e w14 ⟨rfl, hb⟩; refine ⟨_, rfl, ?_⟩; have n0_ := Aside0.mk (below_step (bwA) hb); clear HB; have HB := n0_; clear n0_; (try clear hb); (try clear hb2); (try clear hk); (try clear hi)))
    (try simp only [Act.put, List.setIfInBounds_toArray, List.set_cons_zero, List.set_cons_succ])
    go_cut [] (fun wc => ∃ (kq : Nat), Aside0 (caduceuslaw04_SchemaBack.j1 kq l1 a2 = some r) ∧ Aside0 (kq ≤ kj3) ∧ Aside0 (Below w.heap.size w wc))
    case first =>
     have H := HC13.out
     clear HC13
     by_cases c15 : t591 = true
     ·subst c15
      have H1 : ((schema_Show.f kj3 l0).bind fun t592 => ((schema_Parse.f kj3 t592).bind fun bt593 => ((schema_Text.f kj3 l0).bind fun t597 => (if t597.size + a2.size ≤ 9223372036854775807 then ((schema_Read.f kj3 (t597 ++ a2)).bind fun bt598 => (if bt593.2 = 0 then (if bt598.2.2 = 0 then (if bt598.2.1.toList = a2.toList then ((caduceuslaw04_Refs.f kj3 bt593.1).bind fun t603 => ((caduceuslaw04_Refs.f kj3 l0).bind fun t606 => ((caduceusref04_Same.f kj3 t603 t606).bind fun t609 => (if t609 = true then ((caduceuslaw04_Refs.f kj3 bt598.1).bind fun t610 => ((caduceuslaw04_Refs.f kj3 l0).bind fun t613 => ((caduceusref04_Same.f kj3 t610 t613).bind fun t616 => (if t616 = true then (caduceuslaw04_SchemaBack.j1 kj3 l1 a2) else (none))))) else (none))))) else (none)) else (none)) else (none))) else (none))))) = some r := by rw [if_pos rfl] at H; exact H
      clear H
      have H := H1
      clear H1
      replace H := Option.bind_eq_some_iff.mp H
      obtain ⟨t592, A160, H⟩ := H
      replace H : ((schema_Parse.f kj3 t592).bind fun bt593 => ((schema_Text.f kj3 l0).bind fun t597 => (if t597.size + a2.size ≤ 9223372036854775807 then ((schema_Read.f kj3 (t597 ++ a2)).bind fun bt598 => (if bt593.2 = 0 then (if bt598.2.2 = 0 then (if bt598.2.1.toList = a2.toList then ((caduceuslaw04_Refs.f kj3 bt593.1).bind fun t603 => ((caduceuslaw04_Refs.f kj3 l0).bind fun t606 => ((caduceusref04_Same.f kj3 t603 t606).bind fun t609 => (if t609 = true then ((caduceuslaw04_Refs.f kj3 bt598.1).bind fun t610 => ((caduceuslaw04_Refs.f kj3 l0).bind fun t613 => ((caduceusref04_Same.f kj3 t610 t613).bind fun t616 => (if t616 = true then (caduceuslaw04_SchemaBack.j1 kj3 l1 a2) else (none))))) else (none))))) else (none)) else (none)) else (none))) else (none)))) = some r := H
      have A16 := Aside0.mk A160
      clear A160
      replace H := Option.bind_eq_some_iff.mp H
      obtain ⟨⟨t593, t594⟩, A170, H⟩ := H
      replace H : ((schema_Text.f kj3 l0).bind fun t597 => (if t597.size + a2.size ≤ 9223372036854775807 then ((schema_Read.f kj3 (t597 ++ a2)).bind fun bt598 => (if t594 = 0 then (if bt598.2.2 = 0 then (if bt598.2.1.toList = a2.toList then ((caduceuslaw04_Refs.f kj3 t593).bind fun t603 => ((caduceuslaw04_Refs.f kj3 l0).bind fun t606 => ((caduceusref04_Same.f kj3 t603 t606).bind fun t609 => (if t609 = true then ((caduceuslaw04_Refs.f kj3 bt598.1).bind fun t610 => ((caduceuslaw04_Refs.f kj3 l0).bind fun t613 => ((caduceusref04_Same.f kj3 t610 t613).bind fun t616 => (if t616 = true then (caduceuslaw04_SchemaBack.j1 kj3 l1 a2) else (none))))) else (none))))) else (none)) else (none)) else (none))) else (none))) = some r := H
      have A17 := Aside0.mk A170
      clear A170
      replace H := Option.bind_eq_some_iff.mp H
      obtain ⟨t597, A180, H⟩ := H
      replace H : (if t597.size + a2.size ≤ 9223372036854775807 then ((schema_Read.f kj3 (t597 ++ a2)).bind fun bt598 => (if t594 = 0 then (if bt598.2.2 = 0 then (if bt598.2.1.toList = a2.toList then ((caduceuslaw04_Refs.f kj3 t593).bind fun t603 => ((caduceuslaw04_Refs.f kj3 l0).bind fun t606 => ((caduceusref04_Same.f kj3 t603 t606).bind fun t609 => (if t609 = true then ((caduceuslaw04_Refs.f kj3 bt598.1).bind fun t610 => ((caduceuslaw04_Refs.f kj3 l0).bind fun t613 => ((caduceusref04_Same.f kj3 t610 t613).bind fun t616 => (if t616 = true then (caduceuslaw04_SchemaBack.j1 kj3 l1 a2) else (none))))) else (none))))) else (none)) else (none)) else (none))) else (none)) = some r := H
      have A18 := Aside0.mk A180
      clear A180
      by_cases c19 : t597.size + a2.size ≤ 9223372036854775807
      ·rw [if_pos c19] at H
       have c19b0 := eq_true c19
       have c19b1 : decide (t597.size + a2.size ≤ 9223372036854775807) = true := decide_eq_true c19
       try have c19b2 : (9223372036854775807 < t597.size + a2.size) = False := eq_false (Nat.not_lt.2 c19)
       replace H := Option.bind_eq_some_iff.mp H
       obtain ⟨⟨t598, t599, t600⟩, A200, H⟩ := H
       replace H : (if t594 = 0 then (if t600 = 0 then (if t599.toList = a2.toList then ((caduceuslaw04_Refs.f kj3 t593).bind fun t603 => ((caduceuslaw04_Refs.f kj3 l0).bind fun t606 => ((caduceusref04_Same.f kj3 t603 t606).bind fun t609 => (if t609 = true then ((caduceuslaw04_Refs.f kj3 t598).bind fun t610 => ((caduceuslaw04_Refs.f kj3 l0).bind fun t613 => ((caduceusref04_Same.f kj3 t610 t613).bind fun t616 => (if t616 = true then (caduceuslaw04_SchemaBack.j1 kj3 l1 a2) else (none))))) else (none))))) else (none)) else (none)) else (none)) = some r := H
       have A20 := Aside0.mk A200
       clear A200
       by_cases c21 : t594 = 0
       ·rw [if_pos c21] at H
        have c21b0 : (t594 == 0) = true := beq_iff_eq.mpr c21
        have c21b1 : (t594 != 0) = false := bne_eq_false_iff_eq.mpr c21
        clear c21
        (first | rw [c21b0] | (simp only [i64_w, i32_w]; rw [c21b0]) | skip)
        by_cases c22 : t600 = 0
        ·rw [if_pos c22] at H
         have c22b0 : (t600 == 0) = true := beq_iff_eq.mpr c22
         have c22b1 : (t600 != 0) = false := bne_eq_false_iff_eq.mpr c22
         clear c22
         by_cases c23 : t599.toList = a2.toList
         ·rw [if_pos c23] at H
          have c23b0 : (t599.toList == a2.toList) = true := beq_iff_eq.mpr c23
          have c23b1 : (t599.toList != a2.toList) = false := bne_eq_false_iff_eq.mpr c23
          clear c23
          replace H := Option.bind_eq_some_iff.mp H
          obtain ⟨t603, A240, H⟩ := H
          replace H : ((caduceuslaw04_Refs.f kj3 l0).bind fun t606 => ((caduceusref04_Same.f kj3 t603 t606).bind fun t609 => (if t609 = true then ((caduceuslaw04_Refs.f kj3 t598).bind fun t610 => ((caduceuslaw04_Refs.f kj3 l0).bind fun t613 => ((caduceusref04_Same.f kj3 t610 t613).bind fun t616 => (if t616 = true then (caduceuslaw04_SchemaBack.j1 kj3 l1 a2) else (none))))) else (none)))) = some r := H
          have A24 := Aside0.mk A240
          clear A240
          replace H := Option.bind_eq_some_iff.mp H
          obtain ⟨t606, A250, H⟩ := H
          replace H : ((caduceusref04_Same.f kj3 t603 t606).bind fun t609 => (if t609 = true then ((caduceuslaw04_Refs.f kj3 t598).bind fun t610 => ((caduceuslaw04_Refs.f kj3 l0).bind fun t613 => ((caduceusref04_Same.f kj3 t610 t613).bind fun t616 => (if t616 = true then (caduceuslaw04_SchemaBack.j1 kj3 l1 a2) else (none))))) else (none))) = some r := H
          have A25 := Aside0.mk A250
          clear A250
          replace H := Option.bind_eq_some_iff.mp H
          obtain ⟨t609, A260, H⟩ := H
          replace H : (if t609 = true then ((caduceuslaw04_Refs.f kj3 t598).bind fun t610 => ((caduceuslaw04_Refs.f kj3 l0).bind fun t613 => ((caduceusref04_Same.f kj3 t610 t613).bind fun t616 => (if t616 = true then (caduceuslaw04_SchemaBack.j1 kj3 l1 a2) else (none))))) else (none)) = some r := H
          have A26 := Aside0.mk A260
          clear A260
          by_cases c27 : t609 = true
          ·subst c27
           have H1 : ((caduceuslaw04_Refs.f kj3 t598).bind fun t610 => ((caduceuslaw04_Refs.f kj3 l0).bind fun t613 => ((caduceusref04_Same.f kj3 t610 t613).bind fun t616 => (if t616 = true then (caduceuslaw04_SchemaBack.j1 kj3 l1 a2) else (none))))) = some r := by rw [if_pos rfl] at H; exact H
           clear H
           have H := H1
           clear H1
           replace H := Option.bind_eq_some_iff.mp H
           obtain ⟨t610, A280, H⟩ := H
           replace H : ((caduceuslaw04_Refs.f kj3 l0).bind fun t613 => ((caduceusref04_Same.f kj3 t610 t613).bind fun t616 => (if t616 = true then (caduceuslaw04_SchemaBack.j1 kj3 l1 a2) else (none)))) = some r := H
           have A28 := Aside0.mk A280
           clear A280
           replace H := Option.bind_eq_some_iff.mp H
           obtain ⟨t613, A290, H⟩ := H
           replace H : ((caduceusref04_Same.f kj3 t610 t613).bind fun t616 => (if t616 = true then (caduceuslaw04_SchemaBack.j1 kj3 l1 a2) else (none))) = some r := H
           have A29 := Aside0.mk A290
           clear A290
           replace H := Option.bind_eq_some_iff.mp H
           obtain ⟨t616, A300, H⟩ := H
           replace H : (if t616 = true then (caduceuslaw04_SchemaBack.j1 kj3 l1 a2) else (none)) = some r := H
           have A30 := Aside0.mk A300
           clear A300
           by_cases c31 : t616 = true
           ·subst c31
            have H1 : (caduceuslaw04_SchemaBack.j1 kj3 l1 a2) = some r := by rw [if_pos rfl] at H; exact H
            clear H
            have H := H1
            clear H1
            have H' := Aside0.mk H
            clear H
            go_wp2_with (first | ((with_reducible refine gate_callee (f := 26) rfl ?_); refine goesA (some 33) Tryz.func26 #[.slice A0 l0.length c0] ?_; (with_reducible refine (schema_Show.calls kj3 _ _ l0 t592 _ ?side1 ?side2 ?side3 A16.out).mono ?_); (case side1 => repeat (first | exact (Kd.C_below HR0.out HB.out) | (with_reducible refine Kd.C_alloc ?_ _) | (with_reducible refine Kd.C_drewN ?_ _) | (with_reducible refine Kd.C_drew ?_))); (case side2 => exact HC0.out); (case side3 => exact Tabs.below HT.out (bwA)); rintro e w32 ⟨rfl, hb⟩; refine ⟨_, rfl, ?_⟩; have n0_ := Aside0.mk (below_step (bwA) hb); clear HB; have HB := n0_; clear n0_; (try clear hb); (try clear hb2); (try clear hk); (try clear hi)) | ((with_reducible refine gate_callee (f := 24) rfl ?_); refine goesA (some 34) Tryz.func24 #[.string t592] ?_; (with_reducible refine (schema_Parse.calls kj3 t592 t593 t594 _ ?side1 A17.out).mono ?_); (case side1 => exact Tabs.below HT.out (bwA)); rintro e w33 ⟨v595, rfl, ho0, hb⟩; refine ⟨_, rfl, ?_⟩; have n0_ := Aside0.mk (Kd.R_lower ho0 (below_size (bwA))); have n1_ := Aside0.mk (below_step (bwA) hb); clear HB; have HO596 := n0_; have HB := n1_; clear n0_ n1_; (try clear hb); (try clear hb2); (try clear hk); (try clear hi); (try clear ho0)) | ((with_reducible refine gate_callee (f := 29) rfl ?_); refine goesA (some 39) Tryz.func29 #[.slice A0 l0.length c0] ?_; (with_reducible refine (schema_Text.calls kj3 _ _ l0 t597 _ ?side1 ?side2 ?side3 A18.out).mono ?_); (case side1 => repeat (first | exact (Kd.C_below HR0.out HB.out) | (with_reducible refine Kd.C_alloc ?_ _) | (with_reducible refine Kd.C_drewN ?_ _) | (with_reducible refine Kd.C_drew ?_))); (case side2 => exact HC0.out); (case side3 => exact Tabs.below HT.out (bwA)); rintro e w34 ⟨rfl, hb⟩; refine ⟨_, rfl, ?_⟩; have n0_ := Aside0.mk (Kd.R_below (by (with_reducible repeat (first | apply Kd.R_alloc | apply Kd.R_drewN | apply Kd.R_drew)); exact HO596.out) hb); have n1_ := Aside0.mk (below_step (bwA) hb); clear HO596; clear HB; have HO596 := n0_; have HB := n1_; clear n0_ n1_; (try clear hb); (try clear hb2); (try clear hk); (try clear hi)) | ((with_reducible refine gate_callee (f := 28) rfl ?_); refine goesA (some 42) Tryz.func28 #[.string (t597 ++ a2)] ?_; (with_reducible refine (schema_Read.calls kj3 (t597 ++ a2) t598 t599 t600 _ ?side1 A20.out).mono ?_); (case side1 => exact Tabs.below HT.out (bwA)); rintro e w35 ⟨v601, rfl, ho0, hb⟩; refine ⟨_, rfl, ?_⟩; have n0_ := Aside0.mk (Kd.R_elder' (by (with_reducible repeat (first | apply Kd.R_alloc | apply Kd.R_drewN | apply Kd.R_drew)); exact HO596.out) (Kd.R_base ho0) hb); have n1_ := Aside0.mk (Kd.R_lower (Kd.R_new' ho0 (Kd.R_lt (by (with_reducible repeat (first | apply Kd.R_alloc | apply Kd.R_drewN | apply Kd.R_drew)); exact HO596.out))) (below_size (bwA))); have n2_ := Aside0.mk (below_step (bwA) hb); clear HO596; clear HB; have HO596 := n0_; have HO602 := n1_; have HB := n2_; clear n0_ n1_ n2_; (try clear hb); (try clear hb2); (try clear hk); (try clear hi); (try clear ho0); obtain ⟨Ao36, co36, eo36⟩ := Kd.R_slice HO596.out; subst eo36) | (go_at_call 12; (with_reducible refine (caduceuslaw04_Refs.calls kj3 _ _ t593 t603 _ ?side1 ?side2 A24.out).mono ?_); (case side1 => repeat (first | exact (Kd.R_reads' HO596.out).2.2 | (with_reducible refine Kd.C_alloc ?_ _) | (with_reducible refine Kd.C_drewN ?_ _) | (with_reducible refine Kd.C_drew ?_))); (case side2 => exact (Kd.R_reads' HO596.out).2.1); rintro e w37 ⟨v604, rfl, ho0, hb⟩; have n0_ := Aside0.mk (Kd.R_below (by (with_reducible repeat (first | apply Kd.R_alloc | apply Kd.R_drewN | apply Kd.R_drew)); exact HO596.out) hb); have n1_ := Aside0.mk (Kd.R_below (by (with_reducible repeat (first | apply Kd.R_alloc | apply Kd.R_drewN | apply Kd.R_drew)); exact HO602.out) hb); have n2_ := Aside0.mk (Kd.R_lower ho0 (below_size (bwA))); have n3_ := Aside0.mk (below_step (bwA) hb); clear HO596; clear HO602; clear HB; have HO596 := n0_; have HO602 := n1_; have HO605 := n2_; have HB := n3_; clear n0_ n1_ n2_ n3_; (try clear hb); (try clear hb2); (try clear hk); (try clear hi); (try clear ho0)) | (go_at_call 12; (with_reducible refine (caduceuslaw04_Refs.calls kj3 _ _ l0 t606 _ ?side1 ?side2 A25.out).mono ?_); (case side1 => repeat (first | exact (Kd.C_below HR0.out HB.out) | (with_reducible refine Kd.C_alloc ?_ _) | (with_reducible refine Kd.C_drewN ?_ _) | (with_reducible refine Kd.C_drew ?_))); (case side2 => exact HC0.out); rintro e w38 ⟨v607, rfl, ho0, hb⟩; have n0_ := Aside0.mk (Kd.R_below (by (with_reducible repeat (first | apply Kd.R_alloc | apply Kd.R_drewN | apply Kd.R_drew)); exact HO596.out) hb); have n1_ := Aside0.mk (Kd.R_below (by (with_reducible repeat (first | apply Kd.R_alloc | apply Kd.R_drewN | apply Kd.R_drew)); exact HO602.out) hb); have n2_ := Aside0.mk (Kd.R_elder' (by (with_reducible repeat (first | apply Kd.R_alloc | apply Kd.R_drewN | apply Kd.R_drew)); exact HO605.out) (Kd.R_base ho0) hb); have n3_ := Aside0.mk (Kd.R_lower (Kd.R_new' ho0 (Kd.R_lt (by (with_reducible repeat (first | apply Kd.R_alloc | apply Kd.R_drewN | apply Kd.R_drew)); exact HO605.out))) (below_size (bwA))); have n4_ := Aside0.mk (below_step (bwA) hb); clear HO596; clear HO602; clear HO605; clear HB; have HO596 := n0_; have HO602 := n1_; have HO605 := n2_; have HO608 := n3_; have HB := n4_; clear n0_ n1_ n2_ n3_ n4_; (try clear hb); (try clear hb2); (try clear hk); (try clear hi); (try clear ho0); obtain ⟨Ao39, co39, eo39⟩ := Kd.R_slice HO605.out; subst eo39; obtain ⟨Ao40, co40, eo40⟩ := Kd.R_slice HO608.out; subst eo40) | (go_at_call 15; (with_reducible refine (caduceusref04_Same.calls kj3 _ _ t603 _ _ t606 true _ ?side1 ?side2 ?side3 ?side4 A26.out).mono ?_); (case side1 => repeat (first | exact (Kd.R_reads' HO605.out).2.2 | (with_reducible refine Kd.C_alloc ?_ _) | (with_reducible refine Kd.C_drewN ?_ _) | (with_reducible refine Kd.C_drew ?_))); (case side2 => exact (Kd.R_reads' HO605.out).2.1); (case side3 => repeat (first | exact (Kd.R_reads' HO608.out).2.2 | (with_reducible refine Kd.C_alloc ?_ _) | (with_reducible refine Kd.C_drewN ?_ _) | (with_reducible refine Kd.C_drew ?_))); (case side4 => exact (Kd.R_reads' HO608.out).2.1); rintro e w' ⟨rfl, ⟨nd, rfl⟩⟩; obtain ⟨Ao41, co41, eo41⟩ := Kd.R_slice HO602.out; subst eo41) | (go_at_call 12; (with_reducible refine (caduceuslaw04_Refs.calls kj3 _ _ t598 t610 _ ?side1 ?side2 A28.out).mono ?_); (case side1 => repeat (first | exact (Kd.R_reads' HO602.out).2.2 | (with_reducible refine Kd.C_alloc ?_ _) | (with_reducible refine Kd.C_drewN ?_ _) | (with_reducible refine Kd.C_drew ?_))); (case side2 => exact (Kd.R_reads' HO602.out).2.1); rintro e w42 ⟨v611, rfl, ho0, hb⟩; have n0_ := Aside0.mk (Kd.R_below (by (with_reducible repeat (first | apply Kd.R_alloc | apply Kd.R_drewN | apply Kd.R_drew)); exact HO596.out) hb); have n1_ := Aside0.mk (Kd.R_below (by (with_reducible repeat (first | apply Kd.R_alloc | apply Kd.R_drewN | apply Kd.R_drew)); exact HO602.out) hb); have n2_ := Aside0.mk (Kd.R_elder' (by (with_reducible repeat (first | apply Kd.R_alloc | apply Kd.R_drewN | apply Kd.R_drew)); exact HO605.out) (Kd.R_base ho0) hb); have n3_ := Aside0.mk (Kd.R_elder' (by (with_reducible repeat (first | apply Kd.R_alloc | apply Kd.R_drewN | apply Kd.R_drew)); exact HO608.out) (Kd.R_base ho0) hb); have n4_ := Aside0.mk (Kd.R_lower (Kd.R_new' (Kd.R_new' ho0 (Kd.R_lt (by (with_reducible repeat (first | apply Kd.R_alloc | apply Kd.R_drewN | apply Kd.R_drew)); exact HO605.out))) (Kd.R_lt (by (with_reducible repeat (first | apply Kd.R_alloc | apply Kd.R_drewN | apply Kd.R_drew)); exact HO608.out))) (below_size (bwA))); have n5_ := Aside0.mk (below_step (bwA) hb); clear HO596; clear HO602; clear HO605; clear HO608; clear HB; have HO596 := n0_; have HO602 := n1_; have HO605 := n2_; have HO608 := n3_; have HO612 := n4_; have HB := n5_; clear n0_ n1_ n2_ n3_ n4_ n5_; (try clear hb); (try clear hb2); (try clear hk); (try clear hi); (try clear ho0)) | (go_at_call 12; (with_reducible refine (caduceuslaw04_Refs.calls kj3 _ _ l0 t613 _ ?side1 ?side2 A29.out).mono ?_); (case side1 => repeat (first | exact (Kd.C_below HR0.out HB.out) | (with_reducible refine Kd.C_alloc ?_ _) | (with_reducible refine Kd.C_drewN ?_ _) | (with_reducible refine Kd.C_drew ?_))); (case side2 => exact HC0.out); rintro e w43 ⟨v614, rfl, ho0, hb⟩; have n0_ := Aside0.mk (Kd.R_below (by (with_reducible repeat (first | apply Kd.R_alloc | apply Kd.R_drewN | apply Kd.R_drew)); exact HO596.out) hb); have n1_ := Aside0.mk (Kd.R_below (by (with_reducible repeat (first | apply Kd.R_alloc | apply Kd.R_drewN | apply Kd.R_drew)); exact HO602.out) hb); have n2_ := Aside0.mk (Kd.R_elder' (by (with_reducible repeat (first | apply Kd.R_alloc | apply Kd.R_drewN | apply Kd.R_drew)); exact HO605.out) (Kd.R_base ho0) hb); have n3_ := Aside0.mk (Kd.R_elder' (by (with_reducible repeat (first | apply Kd.R_alloc | apply Kd.R_drewN | apply Kd.R_drew)); exact HO608.out) (Kd.R_base ho0) hb); have n4_ := Aside0.mk (Kd.R_elder' (by (with_reducible repeat (first | apply Kd.R_alloc | apply Kd.R_drewN | apply Kd.R_drew)); exact HO612.out) (Kd.R_base ho0) hb); have n5_ := Aside0.mk (Kd.R_lower (Kd.R_new' (Kd.R_new' (Kd.R_new' ho0 (Kd.R_lt (by (with_reducible repeat (first | apply Kd.R_alloc | apply Kd.R_drewN | apply Kd.R_drew)); exact HO605.out))) (Kd.R_lt (by (with_reducible repeat (first | apply Kd.R_alloc | apply Kd.R_drewN | apply Kd.R_drew)); exact HO608.out))) (Kd.R_lt (by (with_reducible repeat (first | apply Kd.R_alloc | apply Kd.R_drewN | apply Kd.R_drew)); exact HO612.out))) (below_size (bwA))); have n6_ := Aside0.mk (below_step (bwA) hb); clear HO596; clear HO602; clear HO605; clear HO608; clear HO612; clear HB; have HO596 := n0_; have HO602 := n1_; have HO605 := n2_; have HO608 := n3_; have HO612 := n4_; have HO615 := n5_; have HB := n6_; clear n0_ n1_ n2_ n3_ n4_ n5_ n6_; (try clear hb); (try clear hb2); (try clear hk); (try clear hi); (try clear ho0); obtain ⟨Ao44, co44, eo44⟩ := Kd.R_slice HO612.out; subst eo44; obtain ⟨Ao45, co45, eo45⟩ := Kd.R_slice HO615.out; subst eo45) | (go_at_call 15; (with_reducible refine (caduceusref04_Same.calls kj3 _ _ t610 _ _ t613 true _ ?side1 ?side2 ?side3 ?side4 A30.out).mono ?_); (case side1 => repeat (first | exact (Kd.R_reads' HO612.out).2.2 | (with_reducible refine Kd.C_alloc ?_ _) | (with_reducible refine Kd.C_drewN ?_ _) | (with_reducible refine Kd.C_drew ?_))); (case side2 => exact (Kd.R_reads' HO612.out).2.1); (case side3 => repeat (first | exact (Kd.R_reads' HO615.out).2.2 | (with_reducible refine Kd.C_alloc ?_ _) | (with_reducible refine Kd.C_drewN ?_ _) | (with_reducible refine Kd.C_drew ?_))); (case side4 => exact (Kd.R_reads' HO615.out).2.1); rintro e w' ⟨rfl, ⟨nd, rfl⟩⟩))
            go_meet
            case rel => exact ⟨_, H', ⟨by have := HJ3.out; first | omega | exact Nat.le_refl _⟩, ⟨bwA⟩⟩
           ·replace c31 := Bool.eq_false_iff.mpr c31
            subst c31
            have H1 : (none) = some r := by rw [if_neg (show ¬ (false = true) by decide)] at H; exact H
            clear H
            have H := H1
            clear H1
            exact absurd H (by simp)
          ·replace c27 := Bool.eq_false_iff.mpr c27
           subst c27
           have H1 : (none) = some r := by rw [if_neg (show ¬ (false = true) by decide)] at H; exact H
           clear H
           have H := H1
           clear H1
           exact absurd H (by simp)
         ·rw [if_neg c23] at H
          exact absurd H (by simp)
        ·rw [if_neg c22] at H
         exact absurd H (by simp)
       ·rw [if_neg c21] at H
        exact absurd H (by simp)
      ·rw [if_neg c19] at H
       exact absurd H (by simp)
     ·replace c15 := Bool.eq_false_iff.mpr c15
      subst c15
      have H1 : (caduceuslaw04_SchemaBack.j1 kj3 l1 a2) = some r := by rw [if_neg (show ¬ (false = true) by decide)] at H; exact H
      clear H
      have H := H1
      clear H1
      have H' := Aside0.mk H
      clear H
      go_wp2
      go_meet
      case rel => exact ⟨_, H', ⟨by have := HJ3.out; first | omega | exact Nat.le_refl _⟩, ⟨bwA⟩⟩
    case rest =>
     clear HC13
     try clear c1
     try clear c2
     try clear p2
     try clear c3
     try clear c6
     try clear c8
     try clear c9
     try clear c13
     try clear c15
     try clear c19
     try clear c19b0
     try clear c19b1
     try clear c19b2
     try clear c21
     try clear c21b0
     try clear c21b1
     try clear c22
     try clear c22b0
     try clear c22b1
     try clear c23
     try clear c23b0
     try clear c23b1
     try clear c24
     try clear c26
     try clear c27
     try clear c28
     try clear c29
     try clear c31
     try clear p2
     obtain ⟨kq, HA, HJ12, HB⟩ := hcut
     cases kq with
     | zero => exact absurd HA.out (by simp [caduceuslaw04_SchemaBack.j1])
     | succ kj12 =>
      have H := HA.out
      clear HA
      simp only [caduceuslaw04_SchemaBack.j1] at H
      replace H := Option.bind_eq_some_iff.mp H
      obtain ⟨t617, A460, H⟩ := H
      replace H : (if t617 = true then ((schema_AttrText.f kj12 l1).bind fun t620 => (if t620.size + a2.size ≤ 9223372036854775807 then ((schema_ReadAttrs.f kj12 (t620 ++ a2)).bind fun bt621 => ((caduceuslaw04_awake.f kj12).bind fun t626 => (if t626 = true then (if bt621.2.2 = 0 then (if bt621.2.1.toList = a2.toList then ((caduceuslaw04_Attrs.f kj12 bt621.1).bind fun t627 => ((caduceuslaw04_Attrs.f kj12 l1).bind fun t630 => ((caduceusref04_SameAttrs.f kj12 t627 t630).bind fun t633 => (some t633)))) else (none)) else (none)) else (none)))) else (none))) else ((caduceuslaw04_awake.f kj12).bind fun t618 => (if t618 = true then ((schema_AttrText.f kj12 l1).bind fun t619 => (some (t619.toList == ([] : List UInt8)))) else (none)))) = some r := H
      have A46 := Aside0.mk A460
      clear A460
      by_cases c47 : t617 = true
      ·subst c47
       have H1 : ((schema_AttrText.f kj12 l1).bind fun t620 => (if t620.size + a2.size ≤ 9223372036854775807 then ((schema_ReadAttrs.f kj12 (t620 ++ a2)).bind fun bt621 => ((caduceuslaw04_awake.f kj12).bind fun t626 => (if t626 = true then (if bt621.2.2 = 0 then (if bt621.2.1.toList = a2.toList then ((caduceuslaw04_Attrs.f kj12 bt621.1).bind fun t627 => ((caduceuslaw04_Attrs.f kj12 l1).bind fun t630 => ((caduceusref04_SameAttrs.f kj12 t627 t630).bind fun t633 => (some t633)))) else (none)) else (none)) else (none)))) else (none))) = some r := by rw [if_pos rfl] at H; exact H
       clear H
       have H := H1
       clear H1
       replace H := Option.bind_eq_some_iff.mp H
       obtain ⟨t620, A480, H⟩ := H
       replace H : (if t620.size + a2.size ≤ 9223372036854775807 then ((schema_ReadAttrs.f kj12 (t620 ++ a2)).bind fun bt621 => ((caduceuslaw04_awake.f kj12).bind fun t626 => (if t626 = true then (if bt621.2.2 = 0 then (if bt621.2.1.toList = a2.toList then ((caduceuslaw04_Attrs.f kj12 bt621.1).bind fun t627 => ((caduceuslaw04_Attrs.f kj12 l1).bind fun t630 => ((caduceusref04_SameAttrs.f kj12 t627 t630).bind fun t633 => (some t633)))) else (none)) else (none)) else (none)))) else (none)) = some r := H
       have A48 := Aside0.mk A480
       clear A480
       by_cases c49 : t620.size + a2.size ≤ 9223372036854775807
       ·rw [if_pos c49] at H
        have c49b0 := eq_true c49
        have c49b1 : decide (t620.size + a2.size ≤ 9223372036854775807) = true := decide_eq_true c49
        try have c49b2 : (9223372036854775807 < t620.size + a2.size) = False := eq_false (Nat.not_lt.2 c49)
        replace H := Option.bind_eq_some_iff.mp H
        obtain ⟨⟨t621, t622, t623⟩, A500, H⟩ := H
        replace H : ((caduceuslaw04_awake.f kj12).bind fun t626 => (if t626 = true then (if t623 = 0 then (if t622.toList = a2.toList then ((caduceuslaw04_Attrs.f kj12 t621).bind fun t627 => ((caduceuslaw04_Attrs.f kj12 l1).bind fun t630 => ((caduceusref04_SameAttrs.f kj12 t627 t630).bind fun t633 => (some t633)))) else (none)) else (none)) else (none))) = some r := H
        have A50 := Aside0.mk A500
        clear A500
        replace H := Option.bind_eq_some_iff.mp H
        obtain ⟨t626, A510, H⟩ := H
        replace H : (if t626 = true then (if t623 = 0 then (if t622.toList = a2.toList then ((caduceuslaw04_Attrs.f kj12 t621).bind fun t627 => ((caduceuslaw04_Attrs.f kj12 l1).bind fun t630 => ((caduceusref04_SameAttrs.f kj12 t627 t630).bind fun t633 => (some t633)))) else (none)) else (none)) else (none)) = some r := H
        have A51 := Aside0.mk A510
        clear A510
        by_cases c52 : t626 = true
        ·subst c52
         have H1 : (if t623 = 0 then (if t622.toList = a2.toList then ((caduceuslaw04_Attrs.f kj12 t621).bind fun t627 => ((caduceuslaw04_Attrs.f kj12 l1).bind fun t630 => ((caduceusref04_SameAttrs.f kj12 t627 t630).bind fun t633 => (some t633)))) else (none)) else (none)) = some r := by rw [if_pos rfl] at H; exact H
         clear H
         have H := H1
         clear H1
         by_cases c53 : t623 = 0
         ·rw [if_pos c53] at H
          have c53b0 : (t623 == 0) = true := beq_iff_eq.mpr c53
          have c53b1 : (t623 != 0) = false := bne_eq_false_iff_eq.mpr c53
          clear c53
          by_cases c54 : t622.toList = a2.toList
          ·rw [if_pos c54] at H
           have c54b0 : (t622.toList == a2.toList) = true := beq_iff_eq.mpr c54
           have c54b1 : (t622.toList != a2.toList) = false := bne_eq_false_iff_eq.mpr c54
           clear c54
           replace H := Option.bind_eq_some_iff.mp H
           obtain ⟨t627, A550, H⟩ := H
           replace H : ((caduceuslaw04_Attrs.f kj12 l1).bind fun t630 => ((caduceusref04_SameAttrs.f kj12 t627 t630).bind fun t633 => (some t633))) = some r := H
           have A55 := Aside0.mk A550
           clear A550
           replace H := Option.bind_eq_some_iff.mp H
           obtain ⟨t630, A560, H⟩ := H
           replace H : ((caduceusref04_SameAttrs.f kj12 t627 t630).bind fun t633 => (some t633)) = some r := H
           have A56 := Aside0.mk A560
           clear A560
           replace H := Option.bind_eq_some_iff.mp H
           obtain ⟨t633, A570, H⟩ := H
           replace H : (some t633) = some r := H
           have A57 := Aside0.mk A570
           clear A570
           obtain rfl := Option.some.inj H
           go_wp2_with (first | ((with_reducible refine gate_callee (f := 22) rfl ?_); refine goesA (some 74) Tryz.func22 #[.slice A1 l1.length c1] ?_; (with_reducible refine (schema_Attrs.calls kj12 _ _ l1 true _ ?side1 ?side2 ?side3 A46.out).mono ?_); (case side1 => repeat (first | exact (Kd.C_below HR1.out HB.out) | (with_reducible refine Kd.C_alloc ?_ _) | (with_reducible refine Kd.C_drewN ?_ _) | (with_reducible refine Kd.C_drew ?_))); (case side2 => exact HC1.out); (case side3 => exact Tabs.below HT.out (bwA)); rintro e w58 ⟨rfl, hb⟩; refine ⟨_, rfl, ?_⟩; have n0_ := Aside0.mk (below_step (bwA) hb); clear HB; have HB := n0_; clear n0_; (try clear hb); (try clear hb2); (try clear hk); (try clear hi)) | ((with_reducible refine gate_callee (f := 30) rfl ?_); refine goesA (some 84) Tryz.func30 #[.slice A1 l1.length c1] ?_; (with_reducible refine (schema_AttrText.calls kj12 _ _ l1 t620 _ ?side1 ?side2 ?side3 A48.out).mono ?_); (case side1 => repeat (first | exact (Kd.C_below HR1.out HB.out) | (with_reducible refine Kd.C_alloc ?_ _) | (with_reducible refine Kd.C_drewN ?_ _) | (with_reducible refine Kd.C_drew ?_))); (case side2 => exact HC1.out); (case side3 => exact Tabs.below HT.out (bwA)); rintro e w59 ⟨rfl, hb⟩; refine ⟨_, rfl, ?_⟩; have n0_ := Aside0.mk (below_step (bwA) hb); clear HB; have HB := n0_; clear n0_; (try clear hb); (try clear hb2); (try clear hk); (try clear hi)) | ((with_reducible refine gate_callee (f := 31) rfl ?_); refine goesA (some 87) Tryz.func31 #[.string (t620 ++ a2)] ?_; (with_reducible refine (schema_ReadAttrs.calls kj12 (t620 ++ a2) t621 t622 t623 _ ?side1 A50.out).mono ?_); (case side1 => exact Tabs.below HT.out (bwA)); rintro e w60 ⟨v624, rfl, ho0, hb⟩; refine ⟨_, rfl, ?_⟩; have n0_ := Aside0.mk (Kd.R_lower ho0 (below_size (bwA))); have n1_ := Aside0.mk (below_step (bwA) hb); clear HB; have HO625 := n0_; have HB := n1_; clear n0_ n1_; (try clear hb); (try clear hb2); (try clear hk); (try clear hi); (try clear ho0)) | ((with_reducible refine gate_callee (f := 9) rfl ?_); refine goesA (some 91) Tryz.func9 #[] ?_; (with_reducible refine (caduceuslaw04_awake.calls kj12  true _ ?side1 A51.out).mono ?_); (case side1 => exact Tabs.below HT.out (bwA)); rintro e w61 ⟨rfl, hb⟩; refine ⟨_, rfl, ?_⟩; have n0_ := Aside0.mk (Kd.R_below (by (with_reducible repeat (first | apply Kd.R_alloc | apply Kd.R_drewN | apply Kd.R_drew)); exact HO625.out) hb); have n1_ := Aside0.mk (below_step (bwA) hb); clear HO625; clear HB; have HO625 := n0_; have HB := n1_; clear n0_ n1_; (try clear hb); (try clear hb2); (try clear hk); (try clear hi); obtain ⟨Ao62, co62, eo62⟩ := Kd.R_slice HO625.out; subst eo62) | (go_at_call 19; (with_reducible refine (caduceuslaw04_Attrs.calls kj12 _ _ t621 t627 _ ?side1 ?side2 A55.out).mono ?_); (case side1 => repeat (first | exact (Kd.R_reads' HO625.out).2.2 | (with_reducible refine Kd.C_alloc ?_ _) | (with_reducible refine Kd.C_drewN ?_ _) | (with_reducible refine Kd.C_drew ?_))); (case side2 => exact (Kd.R_reads' HO625.out).2.1); rintro e w63 ⟨v628, rfl, ho0, hb⟩; have n0_ := Aside0.mk (Kd.R_below (by (with_reducible repeat (first | apply Kd.R_alloc | apply Kd.R_drewN | apply Kd.R_drew)); exact HO625.out) hb); have n1_ := Aside0.mk (Kd.R_lower ho0 (below_size (bwA))); have n2_ := Aside0.mk (below_step (bwA) hb); clear HO625; clear HB; have HO625 := n0_; have HO629 := n1_; have HB := n2_; clear n0_ n1_ n2_; (try clear hb); (try clear hb2); (try clear hk); (try clear hi); (try clear ho0)) | (go_at_call 19; (with_reducible refine (caduceuslaw04_Attrs.calls kj12 _ _ l1 t630 _ ?side1 ?side2 A56.out).mono ?_); (case side1 => repeat (first | exact (Kd.C_below HR1.out HB.out) | (with_reducible refine Kd.C_alloc ?_ _) | (with_reducible refine Kd.C_drewN ?_ _) | (with_reducible refine Kd.C_drew ?_))); (case side2 => exact HC1.out); rintro e w64 ⟨v631, rfl, ho0, hb⟩; have n0_ := Aside0.mk (Kd.R_below (by (with_reducible repeat (first | apply Kd.R_alloc | apply Kd.R_drewN | apply Kd.R_drew)); exact HO625.out) hb); have n1_ := Aside0.mk (Kd.R_elder' (by (with_reducible repeat (first | apply Kd.R_alloc | apply Kd.R_drewN | apply Kd.R_drew)); exact HO629.out) (Kd.R_base ho0) hb); have n2_ := Aside0.mk (Kd.R_lower (Kd.R_new' ho0 (Kd.R_lt (by (with_reducible repeat (first | apply Kd.R_alloc | apply Kd.R_drewN | apply Kd.R_drew)); exact HO629.out))) (below_size (bwA))); have n3_ := Aside0.mk (below_step (bwA) hb); clear HO625; clear HO629; clear HB; have HO625 := n0_; have HO629 := n1_; have HO632 := n2_; have HB := n3_; clear n0_ n1_ n2_ n3_; (try clear hb); (try clear hb2); (try clear hk); (try clear hi); (try clear ho0); obtain ⟨Ao65, co65, eo65⟩ := Kd.R_slice HO629.out; subst eo65; obtain ⟨Ao66, co66, eo66⟩ := Kd.R_slice HO632.out; subst eo66) | (go_at_call 32; (with_reducible refine (caduceusref04_SameAttrs.calls kj12 _ _ t627 _ _ t630 t633 _ ?side1 ?side2 ?side3 ?side4 A57.out).mono ?_); (case side1 => repeat (first | exact (Kd.R_reads' HO629.out).2.2 | (with_reducible refine Kd.C_alloc ?_ _) | (with_reducible refine Kd.C_drewN ?_ _) | (with_reducible refine Kd.C_drew ?_))); (case side2 => exact (Kd.R_reads' HO629.out).2.1); (case side3 => repeat (first | exact (Kd.R_reads' HO632.out).2.2 | (with_reducible refine Kd.C_alloc ?_ _) | (with_reducible refine Kd.C_drewN ?_ _) | (with_reducible refine Kd.C_drew ?_))); (case side4 => exact (Kd.R_reads' HO632.out).2.1); rintro e w' ⟨rfl, ⟨nd, rfl⟩⟩))
           go_ret
           exact ⟨endA, bwA⟩
          ·rw [if_neg c54] at H
           exact absurd H (by simp)
         ·rw [if_neg c53] at H
          exact absurd H (by simp)
        ·replace c52 := Bool.eq_false_iff.mpr c52
         subst c52
         have H1 : (none) = some r := by rw [if_neg (show ¬ (false = true) by decide)] at H; exact H
         clear H
         have H := H1
         clear H1
         exact absurd H (by simp)
       ·rw [if_neg c49] at H
        exact absurd H (by simp)
      ·replace c47 := Bool.eq_false_iff.mpr c47
       subst c47
       have H1 : ((caduceuslaw04_awake.f kj12).bind fun t618 => (if t618 = true then ((schema_AttrText.f kj12 l1).bind fun t619 => (some (t619.toList == ([] : List UInt8)))) else (none))) = some r := by rw [if_neg (show ¬ (false = true) by decide)] at H; exact H
       clear H
       have H := H1
       clear H1
       replace H := Option.bind_eq_some_iff.mp H
       obtain ⟨t618, A670, H⟩ := H
       replace H : (if t618 = true then ((schema_AttrText.f kj12 l1).bind fun t619 => (some (t619.toList == ([] : List UInt8)))) else (none)) = some r := H
       have A67 := Aside0.mk A670
       clear A670
       by_cases c68 : t618 = true
       ·subst c68
        have H1 : ((schema_AttrText.f kj12 l1).bind fun t619 => (some (t619.toList == ([] : List UInt8)))) = some r := by rw [if_pos rfl] at H; exact H
        clear H
        have H := H1
        clear H1
        replace H := Option.bind_eq_some_iff.mp H
        obtain ⟨t619, A690, H⟩ := H
        replace H : (some (t619.toList == ([] : List UInt8))) = some r := H
        have A69 := Aside0.mk A690
        clear A690
        obtain rfl := Option.some.inj H
        go_wp2_with (first | ((with_reducible refine gate_callee (f := 22) rfl ?_); refine goesA (some 74) Tryz.func22 #[.slice A1 l1.length c1] ?_; (with_reducible refine (schema_Attrs.calls kj12 _ _ l1 false _ ?side1 ?side2 ?side3 A46.out).mono ?_); (case side1 => repeat (first | exact (Kd.C_below HR1.out HB.out) | (with_reducible refine Kd.C_alloc ?_ _) | (with_reducible refine Kd.C_drewN ?_ _) | (with_reducible refine Kd.C_drew ?_))); (case side2 => exact HC1.out); (case side3 => exact Tabs.below HT.out (bwA)); rintro e w70 ⟨rfl, hb⟩; refine ⟨_, rfl, ?_⟩; have n0_ := Aside0.mk (below_step (bwA) hb); clear HB; have HB := n0_; clear n0_; (try clear hb); (try clear hb2); (try clear hk); (try clear hi)) | ((with_reducible refine gate_callee (f := 9) rfl ?_); refine goesA (some 76) Tryz.func9 #[] ?_; (with_reducible refine (caduceuslaw04_awake.calls kj12  true _ ?side1 A67.out).mono ?_); (case side1 => exact Tabs.below HT.out (bwA)); rintro e w71 ⟨rfl, hb⟩; refine ⟨_, rfl, ?_⟩; have n0_ := Aside0.mk (below_step (bwA) hb); clear HB; have HB := n0_; clear n0_; (try clear hb); (try clear hb2); (try clear hk); (try clear hi)) | (go_at_call 30; (with_reducible refine (schema_AttrText.calls kj12 _ _ l1 t619 _ ?side1 ?side2 ?side3 A69.out).mono ?_); (case side1 => repeat (first | exact (Kd.C_below HR1.out HB.out) | (with_reducible refine Kd.C_alloc ?_ _) | (with_reducible refine Kd.C_drewN ?_ _) | (with_reducible refine Kd.C_drew ?_))); (case side2 => exact HC1.out); (case side3 => exact Tabs.below HT.out (bwA)); rintro e w72 ⟨rfl, hb⟩; have n0_ := Aside0.mk (below_step (bwA) hb); clear HB; have HB := n0_; clear n0_; (try clear hb); (try clear hb2); (try clear hk); (try clear hi)))
        go_ret
        exact ⟨endA, bwA⟩
       ·replace c68 := Bool.eq_false_iff.mpr c68
        subst c68
        have H1 : (none) = some r := by rw [if_neg (show ¬ (false = true) by decide)] at H; exact H
        clear H
        have H := H1
        clear H1
        exact absurd H (by simp)

end Go.Proofs.YtnbbajiabbmdmaaGreatDoor.A
