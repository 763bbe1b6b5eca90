-- By drv.py, the session's own driver round the kit's print: the machine's side of the laws, function by function. Not trusted: Lean checks it.
import Derived.Test.YtnbbajiabbmdmaaGreatDoorAx0
import Derived.Test.YtnbbajiabbmdmaaGreatDoorAx11
import Derived.Test.YtnbbajiabbmdmaaGreatDoorAx12
import Derived.Test.YtnbbajiabbmdmaaGreatDoorAx13
import Derived.Test.YtnbbajiabbmdmaaGreatDoorAx15
import Derived.Test.YtnbbajiabbmdmaaGreatDoorAx40
import Derived.Test.YtnbbajiabbmdmaaGreatDoorAx41
namespace Go.Proofs.YtnbbajiabbmdmaaGreatDoor.A
open Go.RowKit Go.Proofs.YtnbbajiabbmdmaaGreatDoorW.PrintWords Go.Proofs.YtnbbajiabbmdmaaGreatDoorW.PrintLast Go.Proofs.YtnbbajiabbmdmaaGreatDoorW.PrintMore
attribute [local go_sem] max2_int min2_int max_two min_two max_three min_three max_four min_four   -- for this text's walks alone
set_option linter.unusedVariables false
set_option linter.unusedSimpArgs false

/-! ### caduceuslaw04_SchemaLines: function 5 -/
def caduceuslaw04_SchemaLines.j0 : Nat → List (S62) → ByteArray → Bool → Option (Bool)
 | 0, _, _, _ => none
 | k + 1, x0, x1, x16 => if x16 = true then ((caduceuslaw04_awake.f k).bind fun t403 => (some t403)) else ((schema_Parse.f k x1).bind fun bt404 => ((caduceusref04_Parse.f k x1).bind fun bt408 => ((caduceuslaw04_awake.f k).bind fun t412 => (if t412 = true then ((schema_Show.f k x0).bind fun t413 => ((caduceuslaw04_Refs.f k x0).bind fun t414 => ((caduceusref04_Show.f k t414).bind fun t417 => (if t413.toList = t417.toList then ((caduceuslaw04_Refs.f k bt404.1).bind fun t418 => ((caduceusref04_Same.f k t418 bt408.1).bind fun t421 => (if t421 = true then (some (bt404.2 == bt408.2)) else (none)))) else (none))))) else (none)))))
def caduceuslaw04_SchemaLines.f (k : Nat) (l0 : List (S62)) (a1 : ByteArray) : Option (Bool) := (caduceuslaw04_Few.f k l0).bind fun t402 => (if t402 = true then (caduceuslaw04_SchemaLines.j0 k l0 a1 (decide ((a1.size : Int) > 2000))) else (caduceuslaw04_SchemaLines.j0 k l0 a1 true))
theorem caduceuslaw04_SchemaLines.mono_l : ∀ k, (∀ y0 y1 y2, LeO (caduceuslaw04_SchemaLines.j0 k y0 y1 y2) (caduceuslaw04_SchemaLines.j0 (k + 1) y0 y1 y2))
 | 0 => fun _ _ _ r h => by simp [caduceuslaw04_SchemaLines.j0] at h
 | k + 1 => by
  have ih0 := caduceuslaw04_SchemaLines.mono_l k
  ·intro y0 y1 y2
   unfold caduceuslaw04_SchemaLines.j0
   repeat' first
   | (with_reducible exact ih0 _ _ _)
   | (with_reducible exact caduceuslaw04_Few.mono _ _)
   | (with_reducible exact caduceuslaw04_Refs.mono _ _)
   | (with_reducible exact caduceuslaw04_awake.mono _)
   | (with_reducible exact caduceusref04_Parse.mono _ _)
   | (with_reducible exact caduceusref04_Same.mono _ _ _)
   | (with_reducible exact caduceusref04_Show.mono _ _)
   | (with_reducible exact schema_Parse.mono _ _)
   | (with_reducible exact schema_Show.mono _ _)
   | (with_reducible exact LeO.refl _)
   | (with_reducible exact LeO.none _)
   | (with_reducible refine LeO.ite ?_ ?_)
   | (with_reducible refine LeO.bind ?_ (fun _ => ?_))
   | exact ih0 _ _ _
   | exact caduceuslaw04_Few.mono _ _
   | exact caduceuslaw04_Refs.mono _ _
   | exact caduceuslaw04_awake.mono _
   | exact caduceusref04_Parse.mono _ _
   | exact caduceusref04_Same.mono _ _ _
   | exact caduceusref04_Show.mono _ _
   | exact schema_Parse.mono _ _
   | exact schema_Show.mono _ _
   | exact LeO.none _
   | refine LeO.ite ?_ ?_
   | refine LeO.bind ?_ (fun _ => ?_)
theorem caduceuslaw04_SchemaLines.mono : ∀ a0 a1 k, LeO (caduceuslaw04_SchemaLines.f k a0 a1) (caduceuslaw04_SchemaLines.f (k + 1) a0 a1) := by
 intro a0 a1 k
 have ih0 := caduceuslaw04_SchemaLines.mono_l k
 unfold caduceuslaw04_SchemaLines.f
 repeat' first
   | (with_reducible exact ih0 _ _ _)
   | (with_reducible exact caduceuslaw04_Few.mono _ _)
   | (with_reducible exact caduceuslaw04_Refs.mono _ _)
   | (with_reducible exact caduceuslaw04_awake.mono _)
   | (with_reducible exact caduceusref04_Parse.mono _ _)
   | (with_reducible exact caduceusref04_Same.mono _ _ _)
   | (with_reducible exact caduceusref04_Show.mono _ _)
   | (with_reducible exact schema_Parse.mono _ _)
   | (with_reducible exact schema_Show.mono _ _)
   | (with_reducible exact LeO.refl _)
   | (with_reducible exact LeO.none _)
   | (with_reducible refine LeO.ite ?_ ?_)
   | (with_reducible refine LeO.bind ?_ (fun _ => ?_))
   | exact ih0 _ _ _
   | exact caduceuslaw04_Few.mono _ _
   | exact caduceuslaw04_Refs.mono _ _
   | exact caduceuslaw04_awake.mono _
   | exact caduceusref04_Parse.mono _ _
   | exact caduceusref04_Same.mono _ _ _
   | exact caduceusref04_Show.mono _ _
   | exact schema_Parse.mono _ _
   | exact schema_Show.mono _ _
   | exact LeO.none _
   | refine LeO.ite ?_ ?_
   | refine LeO.bind ?_ (fun _ => ?_)
set_option maxHeartbeats 8000000 in
set_option maxRecDepth 100000 in
theorem caduceuslaw04_SchemaLines.calls (k : Nat) (A0 : Option Addr) (c0 : Nat) (l0 : List (S62)) (a1 : ByteArray) (r : Bool) (w : World) (hr0 : Kd.C k62 w A0 l0.length l0) (hc0 : l0.length ≤ c0) (hT : Tabs w) (h : caduceuslaw04_SchemaLines.f k l0 a1 = some r) :
  Calls Tryz.prog 5 #[.slice A0 l0.length c0, .string a1] w fun e w' => e = .returned (.bool r) ∧ Below w.heap.size w w' := by
 have HR0 := Aside0.mk hr0
 have HC0 := Aside0.mk hc0
 clear hr0 hc0
 have HB := Aside0.mk (Below.refl w.heap.size w)
 have H : ((caduceuslaw04_Few.f k l0).bind fun t402 => (if t402 = true then (caduceuslaw04_SchemaLines.j0 k l0 a1 (decide ((a1.size : Int) > 2000))) else (caduceuslaw04_SchemaLines.j0 k l0 a1 true))) = some r := h
 clear h
 have HT := Aside0.mk hT
 clear hT
 have HC3 := Aside0.mk H
 clear H
 go_enter Tryz.func5, Tryz.ntmps5
 go_upto_region 1 with (fail)
 go_cut [16] (fun v16 wc => ∃ (kq : Nat) (x16_2 : Bool), v16 = .bool x16_2 ∧ Aside0 (caduceuslaw04_SchemaLines.j0 kq l0 a1 x16_2 = some r) ∧ Aside0 (kq ≤ k) ∧ Aside0 (Below w.heap.size w wc))
 case first =>
  have H := HC3.out
  clear HC3
  replace H := Option.bind_eq_some_iff.mp H
  obtain ⟨t402, A40, H⟩ := H
  replace H : (if t402 = true then (caduceuslaw04_SchemaLines.j0 k l0 a1 (decide ((a1.size : Int) > 2000))) else (caduceuslaw04_SchemaLines.j0 k l0 a1 true)) = some r := H
  have A4 := Aside0.mk A40
  clear A40
  by_cases c5 : t402 = true
  ·subst c5
   have H1 : (caduceuslaw04_SchemaLines.j0 k l0 a1 (decide ((a1.size : Int) > 2000))) = some r := by rw [if_pos rfl] at H; exact H
   clear H
   have H := H1
   clear H1
   have H' := Aside0.mk H
   clear H
   go_wp2_with (first | ((with_reducible refine gate_callee (f := 8) rfl ?_); refine goesA (some 10) Tryz.func8 #[.slice A0 l0.length c0] ?_; (with_reducible refine (caduceuslaw04_Few.calls k _ _ l0 true _ ?side1 ?side2 A4.out).mono ?_); (case side1 => repeat (first | exact (Kd.C_below HR0.out HB.out) | (with_reducible refine Kd.C_alloc ?_ _) | (with_reducible refine Kd.C_drewN ?_ _) | (with_reducible refine Kd.C_drew ?_))); (case side2 => exact HC0.out); rintro e w' ⟨rfl, ⟨nd, rfl⟩⟩; refine ⟨_, rfl, ?_⟩))
   go_meet
   case rel => exact ⟨_, (decide ((a1.size : Int) > 2000)), (endS), H', ⟨by first | omega | exact Nat.le_refl _⟩, ⟨bwA⟩⟩
  ·replace c5 := Bool.eq_false_iff.mpr c5
   subst c5
   have H1 : (caduceuslaw04_SchemaLines.j0 k l0 a1 true) = some r := by rw [if_neg (show ¬ (false = true) by decide)] at H; exact H
   clear H
   have H := H1
   clear H1
   have H' := Aside0.mk H
   clear H
   go_wp2_with (first | ((with_reducible refine gate_callee (f := 8) rfl ?_); refine goesA (some 10) Tryz.func8 #[.slice A0 l0.length c0] ?_; (with_reducible refine (caduceuslaw04_Few.calls k _ _ l0 false _ ?side1 ?side2 A4.out).mono ?_); (case side1 => repeat (first | exact (Kd.C_below HR0.out HB.out) | (with_reducible refine Kd.C_alloc ?_ _) | (with_reducible refine Kd.C_drewN ?_ _) | (with_reducible refine Kd.C_drew ?_))); (case side2 => exact HC0.out); rintro e w' ⟨rfl, ⟨nd, rfl⟩⟩; refine ⟨_, rfl, ?_⟩))
   go_meet
   case rel => exact ⟨_, (true), (endS), H', ⟨by first | omega | exact Nat.le_refl _⟩, ⟨bwA⟩⟩
 case rest =>
  clear HC3
  try clear p2
  try clear c5
  obtain ⟨kq, x16_2, rfl, HA, HJ2, HB⟩ := hcut
  cases kq with
  | zero => exact absurd HA.out (by simp [caduceuslaw04_SchemaLines.j0])
  | succ kj2 =>
   have H := HA.out
   clear HA
   simp only [caduceuslaw04_SchemaLines.j0] at H
   by_cases c6 : x16_2 = true
   ·subst c6
    have H1 : ((caduceuslaw04_awake.f kj2).bind fun t403 => (some t403)) = some r := by rw [if_pos rfl] at H; exact H
    clear H
    have H := H1
    clear H1
    replace H := Option.bind_eq_some_iff.mp H
    obtain ⟨t403, A70, H⟩ := H
    replace H : (some t403) = some r := H
    have A7 := Aside0.mk A70
    clear A70
    obtain rfl := Option.some.inj H
    go_wp2_with (first | ((with_reducible refine gate_callee (f := 9) rfl ?_); refine goesA (some 17) Tryz.func9 #[] ?_; (with_reducible refine (caduceuslaw04_awake.calls kj2  t403 _ ?side1 A7.out).mono ?_); (case side1 => exact Tabs.below HT.out (bwA)); rintro e w8 ⟨rfl, hb⟩; refine ⟨_, rfl, ?_⟩; have n0_ := Aside0.mk (below_step (bwA) hb); clear HB; have HB := n0_; clear n0_; (try clear hb); (try clear hb2); (try clear hk); (try clear hi)))
    go_ret
    exact ⟨endA, bwA⟩
   ·replace c6 := Bool.eq_false_iff.mpr c6
    subst c6
    have H1 : ((schema_Parse.f kj2 a1).bind fun bt404 => ((caduceusref04_Parse.f kj2 a1).bind fun bt408 => ((caduceuslaw04_awake.f kj2).bind fun t412 => (if t412 = true then ((schema_Show.f kj2 l0).bind fun t413 => ((caduceuslaw04_Refs.f kj2 l0).bind fun t414 => ((caduceusref04_Show.f kj2 t414).bind fun t417 => (if t413.toList = t417.toList then ((caduceuslaw04_Refs.f kj2 bt404.1).bind fun t418 => ((caduceusref04_Same.f kj2 t418 bt408.1).bind fun t421 => (if t421 = true then (some (bt404.2 == bt408.2)) else (none)))) else (none))))) else (none))))) = some r := by rw [if_neg (show ¬ (false = true) by decide)] at H; exact H
    clear H
    have H := H1
    clear H1
    replace H := Option.bind_eq_some_iff.mp H
    obtain ⟨⟨t404, t405⟩, A90, H⟩ := H
    replace H : ((caduceusref04_Parse.f kj2 a1).bind fun bt408 => ((caduceuslaw04_awake.f kj2).bind fun t412 => (if t412 = true then ((schema_Show.f kj2 l0).bind fun t413 => ((caduceuslaw04_Refs.f kj2 l0).bind fun t414 => ((caduceusref04_Show.f kj2 t414).bind fun t417 => (if t413.toList = t417.toList then ((caduceuslaw04_Refs.f kj2 t404).bind fun t418 => ((caduceusref04_Same.f kj2 t418 bt408.1).bind fun t421 => (if t421 = true then (some (t405 == bt408.2)) else (none)))) else (none))))) else (none)))) = some r := H
    have A9 := Aside0.mk A90
    clear A90
    replace H := Option.bind_eq_some_iff.mp H
    obtain ⟨⟨t408, t409⟩, A100, H⟩ := H
    replace H : ((caduceuslaw04_awake.f kj2).bind fun t412 => (if t412 = true then ((schema_Show.f kj2 l0).bind fun t413 => ((caduceuslaw04_Refs.f kj2 l0).bind fun t414 => ((caduceusref04_Show.f kj2 t414).bind fun t417 => (if t413.toList = t417.toList then ((caduceuslaw04_Refs.f kj2 t404).bind fun t418 => ((caduceusref04_Same.f kj2 t418 t408).bind fun t421 => (if t421 = true then (some (t405 == t409)) else (none)))) else (none))))) else (none))) = some r := H
    have A10 := Aside0.mk A100
    clear A100
    replace H := Option.bind_eq_some_iff.mp H
    obtain ⟨t412, A110, H⟩ := H
    replace H : (if t412 = true then ((schema_Show.f kj2 l0).bind fun t413 => ((caduceuslaw04_Refs.f kj2 l0).bind fun t414 => ((caduceusref04_Show.f kj2 t414).bind fun t417 => (if t413.toList = t417.toList then ((caduceuslaw04_Refs.f kj2 t404).bind fun t418 => ((caduceusref04_Same.f kj2 t418 t408).bind fun t421 => (if t421 = true then (some (t405 == t409)) else (none)))) else (none))))) else (none)) = some r := H
    have A11 := Aside0.mk A110
    clear A110
    by_cases c12 : t412 = true
    ·subst c12
     have H1 : ((schema_Show.f kj2 l0).bind fun t413 => ((caduceuslaw04_Refs.f kj2 l0).bind fun t414 => ((caduceusref04_Show.f kj2 t414).bind fun t417 => (if t413.toList = t417.toList then ((caduceuslaw04_Refs.f kj2 t404).bind fun t418 => ((caduceusref04_Same.f kj2 t418 t408).bind fun t421 => (if t421 = true then (some (t405 == t409)) else (none)))) else (none))))) = some r := by rw [if_pos rfl] at H; exact H
     clear H
     have H := H1
     clear H1
     replace H := Option.bind_eq_some_iff.mp H
     obtain ⟨t413, A130, H⟩ := H
     replace H : ((caduceuslaw04_Refs.f kj2 l0).bind fun t414 => ((caduceusref04_Show.f kj2 t414).bind fun t417 => (if t413.toList = t417.toList then ((caduceuslaw04_Refs.f kj2 t404).bind fun t418 => ((caduceusref04_Same.f kj2 t418 t408).bind fun t421 => (if t421 = true then (some (t405 == t409)) else (none)))) else (none)))) = some r := H
     have A13 := Aside0.mk A130
     clear A130
     replace H := Option.bind_eq_some_iff.mp H
     obtain ⟨t414, A140, H⟩ := H
     replace H : ((caduceusref04_Show.f kj2 t414).bind fun t417 => (if t413.toList = t417.toList then ((caduceuslaw04_Refs.f kj2 t404).bind fun t418 => ((caduceusref04_Same.f kj2 t418 t408).bind fun t421 => (if t421 = true then (some (t405 == t409)) else (none)))) else (none))) = some r := H
     have A14 := Aside0.mk A140
     clear A140
     replace H := Option.bind_eq_some_iff.mp H
     obtain ⟨t417, A150, H⟩ := H
     replace H : (if t413.toList = t417.toList then ((caduceuslaw04_Refs.f kj2 t404).bind fun t418 => ((caduceusref04_Same.f kj2 t418 t408).bind fun t421 => (if t421 = true then (some (t405 == t409)) else (none)))) else (none)) = some r := H
     have A15 := Aside0.mk A150
     clear A150
     by_cases c16 : t413.toList = t417.toList
     ·rw [if_pos c16] at H
      have c16b0 : (t413.toList == t417.toList) = true := beq_iff_eq.mpr c16
      have c16b1 : (t413.toList != t417.toList) = false := bne_eq_false_iff_eq.mpr c16
      clear c16
      replace H := Option.bind_eq_some_iff.mp H
      obtain ⟨t418, A170, H⟩ := H
      replace H : ((caduceusref04_Same.f kj2 t418 t408).bind fun t421 => (if t421 = true then (some (t405 == t409)) else (none))) = some r := H
      have A17 := Aside0.mk A170
      clear A170
      replace H := Option.bind_eq_some_iff.mp H
      obtain ⟨t421, A180, H⟩ := H
      replace H : (if t421 = true then (some (t405 == t409)) else (none)) = some r := H
      have A18 := Aside0.mk A180
      clear A180
      by_cases c19 : t421 = true
      ·subst c19
       have H1 : (some (t405 == t409)) = some r := by rw [if_pos rfl] at H; exact H
       clear H
       have H := H1
       clear H1
       obtain rfl := Option.some.inj H
       go_wp2_with (first | ((with_reducible refine gate_callee (f := 24) rfl ?_); refine goesA (some 20) Tryz.func24 #[.string a1] ?_; (with_reducible refine (schema_Parse.calls kj2 a1 t404 t405 _ ?side1 A9.out).mono ?_); (case side1 => exact Tabs.below HT.out (bwA)); rintro e w20 ⟨v406, rfl, ho0, hb⟩; refine ⟨_, rfl, ?_⟩; have n0_ := Aside0.mk (Kd.R_lower ho0 (below_size (bwA))); have n1_ := Aside0.mk (below_step (bwA) hb); clear HB; have HO407 := n0_; have HB := n1_; clear n0_ n1_; (try clear hb); (try clear hb2); (try clear hk); (try clear hi); (try clear ho0)) | ((with_reducible refine gate_callee (f := 25) rfl ?_); refine goesA (some 25) Tryz.func25 #[.string a1] ?_; (with_reducible refine (caduceusref04_Parse.calls kj2 a1 t408 t409 _ A10.out).mono ?_); rintro e w21 ⟨v410, rfl, ho0, hb⟩; refine ⟨_, rfl, ?_⟩; have n0_ := Aside0.mk (Kd.R_below (by (with_reducible repeat (first | apply Kd.R_alloc | apply Kd.R_drewN | apply Kd.R_drew)); exact HO407.out) hb); have n1_ := Aside0.mk (Kd.R_lower ho0 (below_size (bwA))); have n2_ := Aside0.mk (below_step (bwA) hb); clear HO407; clear HB; have HO407 := n0_; have HO411 := n1_; have HB := n2_; clear n0_ n1_ n2_; (try clear hb); (try clear hb2); (try clear hk); (try clear hi); (try clear ho0)) | ((with_reducible refine gate_callee (f := 9) rfl ?_); refine goesA (some 28) Tryz.func9 #[] ?_; (with_reducible refine (caduceuslaw04_awake.calls kj2  true _ ?side1 A11.out).mono ?_); (case side1 => exact Tabs.below HT.out (bwA)); rintro e w22 ⟨rfl, hb⟩; refine ⟨_, rfl, ?_⟩; have n0_ := Aside0.mk (Kd.R_below (by (with_reducible repeat (first | apply Kd.R_alloc | apply Kd.R_drewN | apply Kd.R_drew)); exact HO407.out) hb); have n1_ := Aside0.mk (Kd.R_below (by (with_reducible repeat (first | apply Kd.R_alloc | apply Kd.R_drewN | apply Kd.R_drew)); exact HO411.out) hb); have n2_ := Aside0.mk (below_step (bwA) hb); clear HO407; clear HO411; clear HB; have HO407 := n0_; have HO411 := n1_; have HB := n2_; clear n0_ n1_ n2_; (try clear hb); (try clear hb2); (try clear hk); (try clear hi)) | (go_at_call 26; (with_reducible refine (schema_Show.calls kj2 _ _ l0 t413 _ ?side1 ?side2 ?side3 A13.out).mono ?_); (case side1 => repeat (first | exact (Kd.C_below HR0.out HB.out) | (with_reducible refine Kd.C_alloc ?_ _) | (with_reducible refine Kd.C_drewN ?_ _) | (with_reducible refine Kd.C_drew ?_))); (case side2 => exact HC0.out); (case side3 => exact Tabs.below HT.out (bwA)); rintro e w23 ⟨rfl, hb⟩; have n0_ := Aside0.mk (Kd.R_below (by (with_reducible repeat (first | apply Kd.R_alloc | apply Kd.R_drewN | apply Kd.R_drew)); exact HO407.out) hb); have n1_ := Aside0.mk (Kd.R_below (by (with_reducible repeat (first | apply Kd.R_alloc | apply Kd.R_drewN | apply Kd.R_drew)); exact HO411.out) hb); have n2_ := Aside0.mk (below_step (bwA) hb); clear HO407; clear HO411; clear HB; have HO407 := n0_; have HO411 := n1_; have HB := n2_; clear n0_ n1_ n2_; (try clear hb); (try clear hb2); (try clear hk); (try clear hi)) | (go_at_call 12; (with_reducible refine (caduceuslaw04_Refs.calls kj2 _ _ l0 t414 _ ?side1 ?side2 A14.out).mono ?_); (case side1 => repeat (first | exact (Kd.C_below HR0.out HB.out) | (with_reducible refine Kd.C_alloc ?_ _) | (with_reducible refine Kd.C_drewN ?_ _) | (with_reducible refine Kd.C_drew ?_))); (case side2 => exact HC0.out); rintro e w24 ⟨v415, rfl, ho0, hb⟩; have n0_ := Aside0.mk (Kd.R_below (by (with_reducible repeat (first | apply Kd.R_alloc | apply Kd.R_drewN | apply Kd.R_drew)); exact HO407.out) hb); have n1_ := Aside0.mk (Kd.R_elder' (by (with_reducible repeat (first | apply Kd.R_alloc | apply Kd.R_drewN | apply Kd.R_drew)); exact HO411.out) (Kd.R_base ho0) hb); have n2_ := Aside0.mk (Kd.R_lower (Kd.R_new' ho0 (Kd.R_lt (by (with_reducible repeat (first | apply Kd.R_alloc | apply Kd.R_drewN | apply Kd.R_drew)); exact HO411.out))) (below_size (bwA))); have n3_ := Aside0.mk (below_step (bwA) hb); clear HO407; clear HO411; clear HB; have HO407 := n0_; have HO411 := n1_; have HO416 := n2_; have HB := n3_; clear n0_ n1_ n2_ n3_; (try clear hb); (try clear hb2); (try clear hk); (try clear hi); (try clear ho0); obtain ⟨Ao25, co25, eo25⟩ := Kd.R_slice HO416.out; subst eo25) | (go_at_call 27; (with_reducible refine (caduceusref04_Show.calls kj2 _ _ t414 t417 _ ?side1 ?side2 A15.out).mono ?_); (case side1 => repeat (first | exact (Kd.R_reads' HO416.out).2.2 | (with_reducible refine Kd.C_alloc ?_ _) | (with_reducible refine Kd.C_drewN ?_ _) | (with_reducible refine Kd.C_drew ?_))); (case side2 => exact (Kd.R_reads' HO416.out).2.1); rintro e w26 ⟨rfl, hb⟩; have n0_ := Aside0.mk (Kd.R_below (by (with_reducible repeat (first | apply Kd.R_alloc | apply Kd.R_drewN | apply Kd.R_drew)); exact HO407.out) hb); have n1_ := Aside0.mk (Kd.R_below (by (with_reducible repeat (first | apply Kd.R_alloc | apply Kd.R_drewN | apply Kd.R_drew)); exact HO411.out) hb); have n2_ := Aside0.mk (Kd.R_below (by (with_reducible repeat (first | apply Kd.R_alloc | apply Kd.R_drewN | apply Kd.R_drew)); exact HO416.out) hb); have n3_ := Aside0.mk (below_step (bwA) hb); clear HO407; clear HO411; clear HO416; clear HB; have HO407 := n0_; have HO411 := n1_; have HO416 := n2_; have HB := n3_; clear n0_ n1_ n2_ n3_; (try clear hb); (try clear hb2); (try clear hk); (try clear hi); obtain ⟨Ao27, co27, eo27⟩ := Kd.R_slice HO407.out; subst eo27) | (go_at_call 12; (with_reducible refine (caduceuslaw04_Refs.calls kj2 _ _ t404 t418 _ ?side1 ?side2 A17.out).mono ?_); (case side1 => repeat (first | exact (Kd.R_reads' HO407.out).2.2 | (with_reducible refine Kd.C_alloc ?_ _) | (with_reducible refine Kd.C_drewN ?_ _) | (with_reducible refine Kd.C_drew ?_))); (case side2 => exact (Kd.R_reads' HO407.out).2.1); rintro e w28 ⟨v419, rfl, ho0, hb⟩; have n0_ := Aside0.mk (Kd.R_below (by (with_reducible repeat (first | apply Kd.R_alloc | apply Kd.R_drewN | apply Kd.R_drew)); exact HO407.out) hb); have n1_ := Aside0.mk (Kd.R_elder' (by (with_reducible repeat (first | apply Kd.R_alloc | apply Kd.R_drewN | apply Kd.R_drew)); exact HO411.out) (Kd.R_base ho0) hb); have n2_ := Aside0.mk (Kd.R_elder' (by (with_reducible repeat (first | apply Kd.R_alloc | apply Kd.R_drewN | apply Kd.R_drew)); exact HO416.out) (Kd.R_base ho0) hb); have n3_ := Aside0.mk (Kd.R_lower (Kd.R_new' (Kd.R_new' ho0 (Kd.R_lt (by (with_reducible repeat (first | apply Kd.R_alloc | apply Kd.R_drewN | apply Kd.R_drew)); exact HO411.out))) (Kd.R_lt (by (with_reducible repeat (first | apply Kd.R_alloc | apply Kd.R_drewN | apply Kd.R_drew)); exact HO416.out))) (below_size (bwA))); have n4_ := Aside0.mk (below_step (bwA) hb); clear HO407; clear HO411; clear HO416; clear HB; have HO407 := n0_; have HO411 := n1_; have HO416 := n2_; have HO420 := n3_; have HB := n4_; clear n0_ n1_ n2_ n3_ n4_; (try clear hb); (try clear hb2); (try clear hk); (try clear hi); (try clear ho0); obtain ⟨Ao29, co29, eo29⟩ := Kd.R_slice HO420.out; subst eo29; obtain ⟨Ao30, co30, eo30⟩ := Kd.R_slice HO411.out; subst eo30) | (go_at_call 15; (with_reducible refine (caduceusref04_Same.calls kj2 _ _ t418 _ _ t408 true _ ?side1 ?side2 ?side3 ?side4 A18.out).mono ?_); (case side1 => repeat (first | exact (Kd.R_reads' HO420.out).2.2 | (with_reducible refine Kd.C_alloc ?_ _) | (with_reducible refine Kd.C_drewN ?_ _) | (with_reducible refine Kd.C_drew ?_))); (case side2 => exact (Kd.R_reads' HO420.out).2.1); (case side3 => repeat (first | exact (Kd.R_reads' HO411.out).2.2 | (with_reducible refine Kd.C_alloc ?_ _) | (with_reducible refine Kd.C_drewN ?_ _) | (with_reducible refine Kd.C_drew ?_))); (case side4 => exact (Kd.R_reads' HO411.out).2.1); rintro e w' ⟨rfl, ⟨nd, rfl⟩⟩))
       go_ret
       exact ⟨endA, bwA⟩
      ·replace c19 := Bool.eq_false_iff.mpr c19
       subst c19
       have H1 : (none) = some r := by rw [if_neg (show ¬ (false = true) by decide)] at H; exact H
       clear H
       have H := H1
       clear H1
       exact absurd H (by simp)
     ·rw [if_neg c16] at H
      exact absurd H (by simp)
    ·replace c12 := Bool.eq_false_iff.mpr c12
     subst c12
     have H1 : (none) = some r := by rw [if_neg (show ¬ (false = true) by decide)] at H; exact H
     clear H
     have H := H1
     clear H1
     exact absurd H (by simp)

end Go.Proofs.YtnbbajiabbmdmaaGreatDoor.A
