-- By drv.py, the session's own driver round the kit's print: the machine's side of the laws, function by function. Not trusted: Lean checks it.
import Derived.Test.YtnbbajiabbmdmaaGreatDoorAx0
import Derived.Test.YtnbbajiabbmdmaaGreatDoorAx1
import Derived.Test.YtnbbajiabbmdmaaGreatDoorAx8
import Derived.Test.YtnbbajiabbmdmaaGreatDoorAx9
import Derived.Test.YtnbbajiabbmdmaaGreatDoorAx10
import Derived.Test.YtnbbajiabbmdmaaGreatDoorAx12
import Derived.Test.YtnbbajiabbmdmaaGreatDoorAx13
import Derived.Test.YtnbbajiabbmdmaaGreatDoorAx14
import Derived.Test.YtnbbajiabbmdmaaGreatDoorAx35
import Derived.Test.YtnbbajiabbmdmaaGreatDoorAx36
import Derived.Test.YtnbbajiabbmdmaaGreatDoorAx38
namespace Go.Proofs.YtnbbajiabbmdmaaGreatDoor.A
open Go.RowKit Go.Proofs.YtnbbajiabbmdmaaGreatDoorW.PrintWords Go.Proofs.YtnbbajiabbmdmaaGreatDoorW.PrintLast Go.Proofs.YtnbbajiabbmdmaaGreatDoorW.PrintMore
attribute [local go_sem] max2_int min2_int max_two min_two max_three min_three max_four min_four   -- for this text's walks alone
set_option linter.unusedVariables false
set_option linter.unusedSimpArgs false

attribute [local go_sem high] eqA37
/-! ### caduceuslaw04_SchemaFits: function 4 -/
mutual
def caduceuslaw04_SchemaFits.j0 : Nat → List (S62) → List (S44) → ByteArray → Bool → Option (Bool)
 | 0, _, _, _, _ => none
 | k + 1, x0, x1, x2, x22 => if x22 = true then ((caduceuslaw04_awake.f k).bind fun t360 => (some t360)) else ((schema_Get.f x1 x2).bind fun bt361 => ((caduceuslaw04_Attrs.f k x1).bind fun t366 => ((caduceusref04_Get.f k t366 x2).bind fun t369 => (if (bt361.2.2.2 != (decide (t369 ≥ 0))) = true then (caduceuslaw04_SchemaFits.j1 k x0 x1 true) else (if bt361.2.2.2 = true then (if 0 ≤ t369 then (if t369 < (x1.length : Int) then (if (!(bt361.1 == ((rd_T44 x1 t369).f1.f0)) || (!(bt361.2.1 == ((rd_T44 x1 t369).f1.f1)) || (!(bt361.2.2.1.toList == (((rd_T44 x1 t369).f1.f2).toList))))) = true then (caduceuslaw04_SchemaFits.j1 k x0 x1 true) else (caduceuslaw04_SchemaFits.j1 k x0 x1 false)) else (none)) else (none)) else (caduceuslaw04_SchemaFits.j1 k x0 x1 (!(bt361.1 == 0) || (!(bt361.2.1 == 0) || (!(bt361.2.2.1.toList == ([] : List UInt8)))))))))))
def caduceuslaw04_SchemaFits.j1 : Nat → List (S62) → List (S44) → Bool → Option (Bool)
 | 0, _, _, _ => none
 | k + 1, x0, x1, x58 => if x58 = true then (none) else ((caduceuslaw04_awake.f k).bind fun t371 => (if t371 = true then ((schema_Fits.f k x0 x1).bind fun t372 => ((caduceuslaw04_Refs.f k x0).bind fun t373 => ((caduceuslaw04_Attrs.f k x1).bind fun t376 => ((caduceusref04_Fits.f k t373 t376).bind fun t379 => (if t372 = t379 then ((schema_Attrs.f k x1).bind fun t380 => ((caduceuslaw04_Attrs.f k x1).bind fun t381 => ((caduceusref04_Attrs.f k t381).bind fun t384 => (some (t380 == t384))))) else (none)))))) else (none)))
end
def caduceuslaw04_SchemaFits.f (k : Nat) (l0 : List (S62)) (l1 : List (S44)) (a2 : ByteArray) : Option (Bool) := (caduceuslaw04_Few.f k l0).bind fun t358 => (if t358 = true then ((caduceuslaw04_FewAttrs.f k l1).bind fun t359 => (if t359 = true then (caduceuslaw04_SchemaFits.j0 k l0 l1 a2 (decide ((a2.size : Int) > 200))) else (caduceuslaw04_SchemaFits.j0 k l0 l1 a2 true))) else (caduceuslaw04_SchemaFits.j0 k l0 l1 a2 true))
theorem caduceuslaw04_SchemaFits.mono_l : ∀ k, (∀ y0 y1 y2 y3, LeO (caduceuslaw04_SchemaFits.j0 k y0 y1 y2 y3) (caduceuslaw04_SchemaFits.j0 (k + 1) y0 y1 y2 y3)) ∧ (∀ y0 y1 y2, LeO (caduceuslaw04_SchemaFits.j1 k y0 y1 y2) (caduceuslaw04_SchemaFits.j1 (k + 1) y0 y1 y2))
 | 0 => ⟨fun _ _ _ _ r h => by simp [caduceuslaw04_SchemaFits.j0] at h, fun _ _ _ r h => by simp [caduceuslaw04_SchemaFits.j1] at h⟩
 | k + 1 => by
  obtain ⟨ih0, ih1⟩ := caduceuslaw04_SchemaFits.mono_l k
  refine ⟨?_, ?_⟩
  all_goals intros
  all_goals first | unfold caduceuslaw04_SchemaFits.j0 | unfold caduceuslaw04_SchemaFits.j1
  all_goals repeat' first
   | (with_reducible exact ih0 _ _ _ _)
   | (with_reducible exact ih1 _ _ _)
   | (with_reducible exact caduceuslaw04_Attrs.mono _ _)
   | (with_reducible exact caduceuslaw04_Few.mono _ _)
   | (with_reducible exact caduceuslaw04_FewAttrs.mono _ _)
   | (with_reducible exact caduceuslaw04_Refs.mono _ _)
   | (with_reducible exact caduceuslaw04_awake.mono _)
   | (with_reducible exact caduceusref04_Attrs.mono _ _)
   | (with_reducible exact caduceusref04_Fits.mono _ _ _)
   | (with_reducible exact caduceusref04_Get.mono _ _ _)
   | (with_reducible exact schema_Attrs.mono _ _)
   | (with_reducible exact schema_Fits.mono _ _ _)
   | (with_reducible exact LeO.refl _)
   | (with_reducible exact LeO.none _)
   | (with_reducible refine LeO.ite ?_ ?_)
   | (with_reducible refine LeO.bind ?_ (fun _ => ?_))
   | exact ih0 _ _ _ _
   | exact ih1 _ _ _
   | exact caduceuslaw04_Attrs.mono _ _
   | exact caduceuslaw04_Few.mono _ _
   | exact caduceuslaw04_FewAttrs.mono _ _
   | exact caduceuslaw04_Refs.mono _ _
   | exact caduceuslaw04_awake.mono _
   | exact caduceusref04_Attrs.mono _ _
   | exact caduceusref04_Fits.mono _ _ _
   | exact caduceusref04_Get.mono _ _ _
   | exact schema_Attrs.mono _ _
   | exact schema_Fits.mono _ _ _
   | exact LeO.none _
   | refine LeO.ite ?_ ?_
   | refine LeO.bind ?_ (fun _ => ?_)
theorem caduceuslaw04_SchemaFits.mono : ∀ a0 a1 a2 k, LeO (caduceuslaw04_SchemaFits.f k a0 a1 a2) (caduceuslaw04_SchemaFits.f (k + 1) a0 a1 a2) := by
 intro a0 a1 a2 k
 obtain ⟨ih0, ih1⟩ := caduceuslaw04_SchemaFits.mono_l k
 unfold caduceuslaw04_SchemaFits.f
 repeat' first
   | (with_reducible exact ih0 _ _ _ _)
   | (with_reducible exact ih1 _ _ _)
   | (with_reducible exact caduceuslaw04_Attrs.mono _ _)
   | (with_reducible exact caduceuslaw04_Few.mono _ _)
   | (with_reducible exact caduceuslaw04_FewAttrs.mono _ _)
   | (with_reducible exact caduceuslaw04_Refs.mono _ _)
   | (with_reducible exact caduceuslaw04_awake.mono _)
   | (with_reducible exact caduceusref04_Attrs.mono _ _)
   | (with_reducible exact caduceusref04_Fits.mono _ _ _)
   | (with_reducible exact caduceusref04_Get.mono _ _ _)
   | (with_reducible exact schema_Attrs.mono _ _)
   | (with_reducible exact schema_Fits.mono _ _ _)
   | (with_reducible exact LeO.refl _)
   | (with_reducible exact LeO.none _)
   | (with_reducible refine LeO.ite ?_ ?_)
   | (with_reducible refine LeO.bind ?_ (fun _ => ?_))
   | exact ih0 _ _ _ _
   | exact ih1 _ _ _
   | exact caduceuslaw04_Attrs.mono _ _
   | exact caduceuslaw04_Few.mono _ _
   | exact caduceuslaw04_FewAttrs.mono _ _
   | exact caduceuslaw04_Refs.mono _ _
   | exact caduceuslaw04_awake.mono _
   | exact caduceusref04_Attrs.mono _ _
   | exact caduceusref04_Fits.mono _ _ _
   | exact caduceusref04_Get.mono _ _ _
   | exact schema_Attrs.mono _ _
   | exact schema_Fits.mono _ _ _
   | exact LeO.none _
   | refine LeO.ite ?_ ?_
   | refine LeO.bind ?_ (fun _ => ?_)
set_option maxHeartbeats 8000000 in
set_option maxRecDepth 100000 in
theorem caduceuslaw04_SchemaFits.calls (k : Nat) (A0 : Option Addr) (c0 : Nat) (l0 : List (S62)) (A1 : Option Addr) (c1 : Nat) (l1 : List (S44)) (a2 : ByteArray) (r : Bool) (w : World) (hr0 : Kd.C k62 w A0 l0.length l0) (hc0 : l0.length ≤ c0) (hr1 : Kd.C k44 w A1 l1.length l1) (hc1 : l1.length ≤ c1) (hT : Tabs w) (h : caduceuslaw04_SchemaFits.f k l0 l1 a2 = some r) :
  Calls Tryz.prog 4 #[.slice A0 l0.length c0, .slice A1 l1.length c1, .string a2] w fun e w' => e = .returned (.bool r) ∧ Below w.heap.size w w' := by
 have hu37 := Tryz.underlying37
 have HR0 := Aside0.mk hr0
 have HC0 := Aside0.mk hc0
 clear hr0 hc0
 have HR1 := Aside0.mk hr1
 have HC1 := Aside0.mk hc1
 clear hr1 hc1
 have HB := Aside0.mk (Below.refl w.heap.size w)
 have H : ((caduceuslaw04_Few.f k l0).bind fun t358 => (if t358 = true then ((caduceuslaw04_FewAttrs.f k l1).bind fun t359 => (if t359 = true then (caduceuslaw04_SchemaFits.j0 k l0 l1 a2 (decide ((a2.size : Int) > 200))) else (caduceuslaw04_SchemaFits.j0 k l0 l1 a2 true))) else (caduceuslaw04_SchemaFits.j0 k l0 l1 a2 true))) = some r := h
 clear h
 have HT := Aside0.mk hT
 clear hT
 have HC4 := Aside0.mk H
 clear H
 go_enter Tryz.func4, Tryz.ntmps4
 go_upto_region 1 with (fail)
 repeat (go_quiet (fail); go_upto_region 1 with (fail))
 go_cut [22] (fun v22 wc => ∃ (kq : Nat) (x22_3 : Bool), v22 = .bool x22_3 ∧ Aside0 (caduceuslaw04_SchemaFits.j0 kq l0 l1 a2 x22_3 = some r) ∧ Aside0 (kq ≤ k) ∧ Aside0 (Below w.heap.size w wc))
 case first =>
  have H := HC4.out
  clear HC4
  replace H := Option.bind_eq_some_iff.mp H
  obtain ⟨t358, A50, H⟩ := H
  replace H : (if t358 = true then ((caduceuslaw04_FewAttrs.f k l1).bind fun t359 => (if t359 = true then (caduceuslaw04_SchemaFits.j0 k l0 l1 a2 (decide ((a2.size : Int) > 200))) else (caduceuslaw04_SchemaFits.j0 k l0 l1 a2 true))) else (caduceuslaw04_SchemaFits.j0 k l0 l1 a2 true)) = some r := H
  have A5 := Aside0.mk A50
  clear A50
  by_cases c6 : t358 = true
  ·subst c6
   have H1 : ((caduceuslaw04_FewAttrs.f k l1).bind fun t359 => (if t359 = true then (caduceuslaw04_SchemaFits.j0 k l0 l1 a2 (decide ((a2.size : Int) > 200))) else (caduceuslaw04_SchemaFits.j0 k l0 l1 a2 true))) = some r := by rw [if_pos rfl] at H; exact H
   clear H
   have H := H1
   clear H1
   replace H := Option.bind_eq_some_iff.mp H
   obtain ⟨t359, A70, H⟩ := H
   replace H : (if t359 = true then (caduceuslaw04_SchemaFits.j0 k l0 l1 a2 (decide ((a2.size : Int) > 200))) else (caduceuslaw04_SchemaFits.j0 k l0 l1 a2 true)) = some r := H
   have A7 := Aside0.mk A70
   clear A70
   by_cases c8 : t359 = true
   ·subst c8
    have H1 : (caduceuslaw04_SchemaFits.j0 k l0 l1 a2 (decide ((a2.size : Int) > 200))) = some r := by rw [if_pos rfl] at H; exact H
    clear H
    have H := H1
    clear H1
    have H' := Aside0.mk H
    clear H
    go_wp2_with (first | (go_at_call 8; (with_reducible refine (caduceuslaw04_Few.calls k _ _ l0 true _ ?side1 ?side2 A5.out).mono ?_); (case side1 => repeat (first | exact (Kd.C_below HR0.out HB.out) | (with_reducible refine Kd.C_alloc ?_ _) | (with_reducible refine Kd.C_drewN ?_ _) | (with_reducible refine Kd.C_drew ?_))); (case side2 => exact HC0.out); rintro e w' ⟨rfl, ⟨nd, rfl⟩⟩; (try first | exact ⟨rfl, _, World.drewN_drewN _ _ _⟩ | exact ⟨rfl, _, Eq.trans (World.drewN_drewN _ _ _) (congrArg (World.drewN _) (Nat.add_assoc _ _ _))⟩)) | (go_at_call 16; (with_reducible refine (caduceuslaw04_FewAttrs.calls k _ _ l1 true _ ?side1 ?side2 A7.out).mono ?_); (case side1 => repeat (first | exact (Kd.C_below HR1.out (bwA)) | (with_reducible refine Kd.C_alloc ?_ _) | (with_reducible refine Kd.C_drewN ?_ _) | (with_reducible refine Kd.C_drew ?_))); (case side2 => exact HC1.out); rintro e w' ⟨rfl, ⟨nd, rfl⟩⟩; (try first | exact ⟨rfl, _, World.drewN_drewN _ _ _⟩ | exact ⟨rfl, _, Eq.trans (World.drewN_drewN _ _ _) (congrArg (World.drewN _) (Nat.add_assoc _ _ _))⟩)))
    repeat (go_quiet (first | (go_at_call 8; (with_reducible refine (caduceuslaw04_Few.calls k _ _ l0 true _ ?side1 ?side2 A5.out).mono ?_); (case side1 => repeat (first | exact (Kd.C_below HR0.out HB.out) | (with_reducible refine Kd.C_alloc ?_ _) | (with_reducible refine Kd.C_drewN ?_ _) | (with_reducible refine Kd.C_drew ?_))); (case side2 => exact HC0.out); rintro e w' ⟨rfl, ⟨nd, rfl⟩⟩; (try first | exact ⟨rfl, _, World.drewN_drewN _ _ _⟩ | exact ⟨rfl, _, Eq.trans (World.drewN_drewN _ _ _) (congrArg (World.drewN _) (Nat.add_assoc _ _ _))⟩)) | (go_at_call 16; (with_reducible refine (caduceuslaw04_FewAttrs.calls k _ _ l1 true _ ?side1 ?side2 A7.out).mono ?_); (case side1 => repeat (first | exact (Kd.C_below HR1.out (bwA)) | (with_reducible refine Kd.C_alloc ?_ _) | (with_reducible refine Kd.C_drewN ?_ _) | (with_reducible refine Kd.C_drew ?_))); (case side2 => exact HC1.out); rintro e w' ⟨rfl, ⟨nd, rfl⟩⟩; (try first | exact ⟨rfl, _, World.drewN_drewN _ _ _⟩ | exact ⟨rfl, _, Eq.trans (World.drewN_drewN _ _ _) (congrArg (World.drewN _) (Nat.add_assoc _ _ _))⟩))); try go_wp2_with (first | (go_at_call 8; (with_reducible refine (caduceuslaw04_Few.calls k _ _ l0 true _ ?side1 ?side2 A5.out).mono ?_); (case side1 => repeat (first | exact (Kd.C_below HR0.out HB.out) | (with_reducible refine Kd.C_alloc ?_ _) | (with_reducible refine Kd.C_drewN ?_ _) | (with_reducible refine Kd.C_drew ?_))); (case side2 => exact HC0.out); rintro e w' ⟨rfl, ⟨nd, rfl⟩⟩; (try first | exact ⟨rfl, _, World.drewN_drewN _ _ _⟩ | exact ⟨rfl, _, Eq.trans (World.drewN_drewN _ _ _) (congrArg (World.drewN _) (Nat.add_assoc _ _ _))⟩)) | (go_at_call 16; (with_reducible refine (caduceuslaw04_FewAttrs.calls k _ _ l1 true _ ?side1 ?side2 A7.out).mono ?_); (case side1 => repeat (first | exact (Kd.C_below HR1.out (bwA)) | (with_reducible refine Kd.C_alloc ?_ _) | (with_reducible refine Kd.C_drewN ?_ _) | (with_reducible refine Kd.C_drew ?_))); (case side2 => exact HC1.out); rintro e w' ⟨rfl, ⟨nd, rfl⟩⟩; (try first | exact ⟨rfl, _, World.drewN_drewN _ _ _⟩ | exact ⟨rfl, _, Eq.trans (World.drewN_drewN _ _ _) (congrArg (World.drewN _) (Nat.add_assoc _ _ _))⟩))))
    go_meet
    case rel => exact ⟨_, (decide ((a2.size : Int) > 200)), (endS), H', ⟨by first | omega | exact Nat.le_refl _⟩, ⟨bwA⟩⟩
   ·replace c8 := Bool.eq_false_iff.mpr c8
    subst c8
    have H1 : (caduceuslaw04_SchemaFits.j0 k l0 l1 a2 true) = some r := by rw [if_neg (show ¬ (false = true) by decide)] at H; exact H
    clear H
    have H := H1
    clear H1
    have H' := Aside0.mk H
    clear H
    go_wp2_with (first | (go_at_call 8; (with_reducible refine (caduceuslaw04_Few.calls k _ _ l0 true _ ?side1 ?side2 A5.out).mono ?_); (case side1 => repeat (first | exact (Kd.C_below HR0.out HB.out) | (with_reducible refine Kd.C_alloc ?_ _) | (with_reducible refine Kd.C_drewN ?_ _) | (with_reducible refine Kd.C_drew ?_))); (case side2 => exact HC0.out); rintro e w' ⟨rfl, ⟨nd, rfl⟩⟩; (try first | exact ⟨rfl, _, World.drewN_drewN _ _ _⟩ | exact ⟨rfl, _, Eq.trans (World.drewN_drewN _ _ _) (congrArg (World.drewN _) (Nat.add_assoc _ _ _))⟩)) | (go_at_call 16; (with_reducible refine (caduceuslaw04_FewAttrs.calls k _ _ l1 false _ ?side1 ?side2 A7.out).mono ?_); (case side1 => repeat (first | exact (Kd.C_below HR1.out (bwA)) | (with_reducible refine Kd.C_alloc ?_ _) | (with_reducible refine Kd.C_drewN ?_ _) | (with_reducible refine Kd.C_drew ?_))); (case side2 => exact HC1.out); rintro e w' ⟨rfl, ⟨nd, rfl⟩⟩; (try first | exact ⟨rfl, _, World.drewN_drewN _ _ _⟩ | exact ⟨rfl, _, Eq.trans (World.drewN_drewN _ _ _) (congrArg (World.drewN _) (Nat.add_assoc _ _ _))⟩)))
    repeat (go_quiet (first | (go_at_call 8; (with_reducible refine (caduceuslaw04_Few.calls k _ _ l0 true _ ?side1 ?side2 A5.out).mono ?_); (case side1 => repeat (first | exact (Kd.C_below HR0.out HB.out) | (with_reducible refine Kd.C_alloc ?_ _) | (with_reducible refine Kd.C_drewN ?_ _) | (with_reducible refine Kd.C_drew ?_))); (case side2 => exact HC0.out); rintro e w' ⟨rfl, ⟨nd, rfl⟩⟩; (try first | exact ⟨rfl, _, World.drewN_drewN _ _ _⟩ | exact ⟨rfl, _, Eq.trans (World.drewN_drewN _ _ _) (congrArg (World.drewN _) (Nat.add_assoc _ _ _))⟩)) | (go_at_call 16; (with_reducible refine (caduceuslaw04_FewAttrs.calls k _ _ l1 false _ ?side1 ?side2 A7.out).mono ?_); (case side1 => repeat (first | exact (Kd.C_below HR1.out (bwA)) | (with_reducible refine Kd.C_alloc ?_ _) | (with_reducible refine Kd.C_drewN ?_ _) | (with_reducible refine Kd.C_drew ?_))); (case side2 => exact HC1.out); rintro e w' ⟨rfl, ⟨nd, rfl⟩⟩; (try first | exact ⟨rfl, _, World.drewN_drewN _ _ _⟩ | exact ⟨rfl, _, Eq.trans (World.drewN_drewN _ _ _) (congrArg (World.drewN _) (Nat.add_assoc _ _ _))⟩))); try go_wp2_with (first | (go_at_call 8; (with_reducible refine (caduceuslaw04_Few.calls k _ _ l0 true _ ?side1 ?side2 A5.out).mono ?_); (case side1 => repeat (first | exact (Kd.C_below HR0.out HB.out) | (with_reducible refine Kd.C_alloc ?_ _) | (with_reducible refine Kd.C_drewN ?_ _) | (with_reducible refine Kd.C_drew ?_))); (case side2 => exact HC0.out); rintro e w' ⟨rfl, ⟨nd, rfl⟩⟩; (try first | exact ⟨rfl, _, World.drewN_drewN _ _ _⟩ | exact ⟨rfl, _, Eq.trans (World.drewN_drewN _ _ _) (congrArg (World.drewN _) (Nat.add_assoc _ _ _))⟩)) | (go_at_call 16; (with_reducible refine (caduceuslaw04_FewAttrs.calls k _ _ l1 false _ ?side1 ?side2 A7.out).mono ?_); (case side1 => repeat (first | exact (Kd.C_below HR1.out (bwA)) | (with_reducible refine Kd.C_alloc ?_ _) | (with_reducible refine Kd.C_drewN ?_ _) | (with_reducible refine Kd.C_drew ?_))); (case side2 => exact HC1.out); rintro e w' ⟨rfl, ⟨nd, rfl⟩⟩; (try first | exact ⟨rfl, _, World.drewN_drewN _ _ _⟩ | exact ⟨rfl, _, Eq.trans (World.drewN_drewN _ _ _) (congrArg (World.drewN _) (Nat.add_assoc _ _ _))⟩))))
    go_meet
    case rel => exact ⟨_, (true), (endS), H', ⟨by first | omega | exact Nat.le_refl _⟩, ⟨bwA⟩⟩
  ·replace c6 := Bool.eq_false_iff.mpr c6
   subst c6
   have H1 : (caduceuslaw04_SchemaFits.j0 k l0 l1 a2 true) = some r := by rw [if_neg (show ¬ (false = true) by decide)] at H; exact H
   clear H
   have H := H1
   clear H1
   have H' := Aside0.mk H
   clear H
   go_wp2_with (first | (go_at_call 8; (with_reducible refine (caduceuslaw04_Few.calls k _ _ l0 false _ ?side1 ?side2 A5.out).mono ?_); (case side1 => repeat (first | exact (Kd.C_below HR0.out HB.out) | (with_reducible refine Kd.C_alloc ?_ _) | (with_reducible refine Kd.C_drewN ?_ _) | (with_reducible refine Kd.C_drew ?_))); (case side2 => exact HC0.out); rintro e w' ⟨rfl, ⟨nd, rfl⟩⟩; (try first | exact ⟨rfl, _, World.drewN_drewN _ _ _⟩ | exact ⟨rfl, _, Eq.trans (World.drewN_drewN _ _ _) (congrArg (World.drewN _) (Nat.add_assoc _ _ _))⟩)))
   repeat (go_quiet (first | (go_at_call 8; (with_reducible refine (caduceuslaw04_Few.calls k _ _ l0 false _ ?side1 ?side2 A5.out).mono ?_); (case side1 => repeat (first | exact (Kd.C_below HR0.out HB.out) | (with_reducible refine Kd.C_alloc ?_ _) | (with_reducible refine Kd.C_drewN ?_ _) | (with_reducible refine Kd.C_drew ?_))); (case side2 => exact HC0.out); rintro e w' ⟨rfl, ⟨nd, rfl⟩⟩; (try first | exact ⟨rfl, _, World.drewN_drewN _ _ _⟩ | exact ⟨rfl, _, Eq.trans (World.drewN_drewN _ _ _) (congrArg (World.drewN _) (Nat.add_assoc _ _ _))⟩))); try go_wp2_with (first | (go_at_call 8; (with_reducible refine (caduceuslaw04_Few.calls k _ _ l0 false _ ?side1 ?side2 A5.out).mono ?_); (case side1 => repeat (first | exact (Kd.C_below HR0.out HB.out) | (with_reducible refine Kd.C_alloc ?_ _) | (with_reducible refine Kd.C_drewN ?_ _) | (with_reducible refine Kd.C_drew ?_))); (case side2 => exact HC0.out); rintro e w' ⟨rfl, ⟨nd, rfl⟩⟩; (try first | exact ⟨rfl, _, World.drewN_drewN _ _ _⟩ | exact ⟨rfl, _, Eq.trans (World.drewN_drewN _ _ _) (congrArg (World.drewN _) (Nat.add_assoc _ _ _))⟩))))
   go_meet
   case rel => exact ⟨_, (true), (endS), H', ⟨by first | omega | exact Nat.le_refl _⟩, ⟨bwA⟩⟩
 case rest =>
  clear HC4
  try clear c1
  try clear p2
  try clear c4
  try clear c6
  try clear c8
  obtain ⟨kq, x22_3, rfl, HA, HJ3, HB⟩ := hcut
  cases kq with
  | zero => exact absurd HA.out (by simp [caduceuslaw04_SchemaFits.j0])
  | succ kj3 =>
   have H := HA.out
   clear HA
   simp only [caduceuslaw04_SchemaFits.j0] at H
   by_cases c9 : x22_3 = true
   ·subst c9
    have H1 : ((caduceuslaw04_awake.f kj3).bind fun t360 => (some t360)) = some r := by rw [if_pos rfl] at H; exact H
    clear H
    have H := H1
    clear H1
    replace H := Option.bind_eq_some_iff.mp H
    obtain ⟨t360, A100, H⟩ := H
    replace H : (some t360) = some r := H
    have A10 := Aside0.mk A100
    clear A100
    obtain rfl := Option.some.inj H
    go_wp2_with (first | (go_at_call 9; (with_reducible refine (caduceuslaw04_awake.calls kj3  t360 _ ?side1 A10.out).mono ?_); (case side1 => exact Tabs.below HT.out (bwA)); rintro e w11 ⟨rfl, hb⟩; have n0_ := Aside0.mk (below_step (bwA) hb); clear HB; have HB := n0_; clear n0_; (try clear hb); (try clear hb2); (try clear hk); (try clear hi)))
    repeat (go_quiet (first | (go_at_call 9; (with_reducible refine (caduceuslaw04_awake.calls kj3  t360 _ ?side1 A10.out).mono ?_); (case side1 => exact Tabs.below HT.out (bwA)); rintro e w11 ⟨rfl, hb⟩; have n0_ := Aside0.mk (below_step (bwA) hb); clear HB; have HB := n0_; clear n0_; (try clear hb); (try clear hb2); (try clear hk); (try clear hi))); try go_wp2_with (first | (go_at_call 9; (with_reducible refine (caduceuslaw04_awake.calls kj3  t360 _ ?side1 A10.out).mono ?_); (case side1 => exact Tabs.below HT.out (bwA)); rintro e w11 ⟨rfl, hb⟩; have n0_ := Aside0.mk (below_step (bwA) hb); clear HB; have HB := n0_; clear n0_; (try clear hb); (try clear hb2); (try clear hk); (try clear hi))))
    go_ret
    exact ⟨endA, bwA⟩
   ·replace c9 := Bool.eq_false_iff.mpr c9
    subst c9
    have H1 : ((schema_Get.f l1 a2).bind fun bt361 => ((caduceuslaw04_Attrs.f kj3 l1).bind fun t366 => ((caduceusref04_Get.f kj3 t366 a2).bind fun t369 => (if (bt361.2.2.2 != (decide (t369 ≥ 0))) = true then (caduceuslaw04_SchemaFits.j1 kj3 l0 l1 true) else (if bt361.2.2.2 = true then (if 0 ≤ t369 then (if t369 < (l1.length : Int) then (if (!(bt361.1 == ((rd_T44 l1 t369).f1.f0)) || (!(bt361.2.1 == ((rd_T44 l1 t369).f1.f1)) || (!(bt361.2.2.1.toList == (((rd_T44 l1 t369).f1.f2).toList))))) = true then (caduceuslaw04_SchemaFits.j1 kj3 l0 l1 true) else (caduceuslaw04_SchemaFits.j1 kj3 l0 l1 false)) else (none)) else (none)) else (caduceuslaw04_SchemaFits.j1 kj3 l0 l1 (!(bt361.1 == 0) || (!(bt361.2.1 == 0) || (!(bt361.2.2.1.toList == ([] : List UInt8))))))))))) = some r := by rw [if_neg (show ¬ (false = true) by decide)] at H; exact H
    clear H
    have H := H1
    clear H1
    replace H := Option.bind_eq_some_iff.mp H
    obtain ⟨⟨t361, t362, t363, t364⟩, A120, H⟩ := H
    replace H : ((caduceuslaw04_Attrs.f kj3 l1).bind fun t366 => ((caduceusref04_Get.f kj3 t366 a2).bind fun t369 => (if (t364 != (decide (t369 ≥ 0))) = true then (caduceuslaw04_SchemaFits.j1 kj3 l0 l1 true) else (if t364 = true then (if 0 ≤ t369 then (if t369 < (l1.length : Int) then (if (!(t361 == ((rd_T44 l1 t369).f1.f0)) || (!(t362 == ((rd_T44 l1 t369).f1.f1)) || (!(t363.toList == (((rd_T44 l1 t369).f1.f2).toList))))) = true then (caduceuslaw04_SchemaFits.j1 kj3 l0 l1 true) else (caduceuslaw04_SchemaFits.j1 kj3 l0 l1 false)) else (none)) else (none)) else (caduceuslaw04_SchemaFits.j1 kj3 l0 l1 (!(t361 == 0) || (!(t362 == 0) || (!(t363.toList == ([] : List UInt8)))))))))) = some r := H
    have A12 := Aside0.mk A120
    clear A120
    replace H := Option.bind_eq_some_iff.mp H
    obtain ⟨t366, A130, H⟩ := H
    replace H : ((caduceusref04_Get.f kj3 t366 a2).bind fun t369 => (if (t364 != (decide (t369 ≥ 0))) = true then (caduceuslaw04_SchemaFits.j1 kj3 l0 l1 true) else (if t364 = true then (if 0 ≤ t369 then (if t369 < (l1.length : Int) then (if (!(t361 == ((rd_T44 l1 t369).f1.f0)) || (!(t362 == ((rd_T44 l1 t369).f1.f1)) || (!(t363.toList == (((rd_T44 l1 t369).f1.f2).toList))))) = true then (caduceuslaw04_SchemaFits.j1 kj3 l0 l1 true) else (caduceuslaw04_SchemaFits.j1 kj3 l0 l1 false)) else (none)) else (none)) else (caduceuslaw04_SchemaFits.j1 kj3 l0 l1 (!(t361 == 0) || (!(t362 == 0) || (!(t363.toList == ([] : List UInt8))))))))) = some r := H
    have A13 := Aside0.mk A130
    clear A130
    replace H := Option.bind_eq_some_iff.mp H
    obtain ⟨t369, A140, H⟩ := H
    replace H : (if (t364 != (decide (t369 ≥ 0))) = true then (caduceuslaw04_SchemaFits.j1 kj3 l0 l1 true) else (if t364 = true then (if 0 ≤ t369 then (if t369 < (l1.length : Int) then (if (!(t361 == ((rd_T44 l1 t369).f1.f0)) || (!(t362 == ((rd_T44 l1 t369).f1.f1)) || (!(t363.toList == (((rd_T44 l1 t369).f1.f2).toList))))) = true then (caduceuslaw04_SchemaFits.j1 kj3 l0 l1 true) else (caduceuslaw04_SchemaFits.j1 kj3 l0 l1 false)) else (none)) else (none)) else (caduceuslaw04_SchemaFits.j1 kj3 l0 l1 (!(t361 == 0) || (!(t362 == 0) || (!(t363.toList == ([] : List UInt8)))))))) = some r := H
    have A14 := Aside0.mk A140
    clear A140
    have HC15 := Aside0.mk H
    clear H
    go_upto_region 5 with (first | (go_at_call 17; (with_reducible refine (schema_Get.calls _ _ l1 a2 t361 t362 t363 t364 _ ?side1 ?side2 ?side3 A12.out).mono ?_); (case side1 => repeat (first | exact (Kd.C_below HR1.out HB.out) | (with_reducible refine Kd.C_alloc ?_ _) | (with_reducible refine Kd.C_drewN ?_ _) | (with_reducible refine Kd.C_drew ?_))); (case side2 => exact HC1.out); (case side3 => exact Tabs.below HT.out (bwA)); rintro e w16 ⟨rfl, hb⟩; have n0_ := Aside0.mk (below_step (bwA) hb); clear HB; have HB := n0_; clear n0_; (try clear hb); (try clear hb2); (try clear hk); (try clear hi)) | ((with_reducible refine gate_dst (N := 7) rfl ?_); (try (refine gate_guard (by rfl) ?_; dsimp only)); refine box_event ?hg (N := 7) ?hd (cs := #[.int .i64 0, .int .i64 0, .string (⟨#[]⟩ : ByteArray)]) (t := 37) ?hr ?_; (case hd => rfl); (case hg => rfl); (case hr => first | (go_simp; done) | (go_simp; rfl)); intro gb365 hg w17 hbox hb; have n0_ := Aside0.mk (below_step (bwA) hb); have n1_ := Aside0.mk (hbox); have n2_ := Aside0.mk ((by rw [hg]; exact (below_size (bwA)) : w.heap.size ≤ gb365)); have n3_ := Aside0.mk ((by rw [hg]; exact (below_size (bwA)) : w.heap.size ≤ gb365)); clear HB; have HB := n0_; have BK365 := n1_; have GW365 := n2_; have GE365 := n3_; clear n0_ n1_ n2_ n3_; clear hb hbox hg; have hcz18_0 : w17.cell? ⟨gb365, 0, none⟩ = some (.int .i64 0) := (blk_cell BK365.out 0).trans rfl; have hcz18_1 : w17.cell? ⟨gb365, 1, none⟩ = some (.int .i64 0) := (blk_cell BK365.out 1).trans rfl; have hcz18_2 : w17.cell? ⟨gb365, 2, none⟩ = some (.string (⟨#[]⟩ : ByteArray)) := (blk_cell BK365.out 2).trans rfl; have hfz18_0 := blk_frozen BK365.out 0; have hfz18_1 := blk_frozen BK365.out 1; have hfz18_2 := blk_frozen BK365.out 2) | (go_at_call 19; (with_reducible refine (caduceuslaw04_Attrs.calls kj3 _ _ l1 t366 _ ?side1 ?side2 A13.out).mono ?_); (case side1 => exact Kd.C_below HR1.out (bwA)); (case side2 => exact HC1.out); rintro e w19 ⟨v367, rfl, ho0, hb⟩; have n0_ := Aside0.mk (Kd.R_lower ho0 (below_size (bwA))); have n1_ := Aside0.mk (blk_below (g := gb365) (o := .cells #[.int .i64 t361, .int .i64 t362, .string t363] 37 (0, 0)) (by (with_reducible repeat (first | refine blk_drewN ?_ _ | refine blk_drew ?_ | refine blk_alloc ?_ _)); refine blk_put (cs := #[.int .i64 t361, .int .i64 t362, .string (⟨#[]⟩ : ByteArray)]) ?_ 2 _ rfl; (with_reducible repeat (first | refine blk_drewN ?_ _ | refine blk_drew ?_ | refine blk_alloc ?_ _)); refine blk_put (cs := #[.int .i64 t361, .int .i64 0, .string (⟨#[]⟩ : ByteArray)]) ?_ 1 _ rfl; (with_reducible repeat (first | refine blk_drewN ?_ _ | refine blk_drew ?_ | refine blk_alloc ?_ _)); refine blk_put (cs := #[.int .i64 0, .int .i64 0, .string (⟨#[]⟩ : ByteArray)]) ?_ 0 _ rfl; (with_reducible repeat (first | refine blk_drewN ?_ _ | refine blk_drew ?_ | refine blk_alloc ?_ _)); exact BK365.out) hb); have n2_ := Aside0.mk (below_step (bwA) hb); clear BK365; clear HB; have HO368 := n0_; have BK365 := n1_; have HB := n2_; clear n0_ n1_ n2_; (try clear hb); (try clear hb2); (try clear hk); (try clear hi); (try clear ho0); obtain ⟨Ao20, co20, eo20⟩ := Kd.R_slice HO368.out; subst eo20) | (go_at_call 18; (with_reducible refine (caduceusref04_Get.calls kj3 _ _ t366 a2 t369 _ ?side1 ?side2 A14.out).mono ?_); (case side1 => repeat (first | exact (Kd.R_reads' HO368.out).2.2 | (with_reducible refine Kd.C_alloc ?_ _) | (with_reducible refine Kd.C_drewN ?_ _) | (with_reducible refine Kd.C_drew ?_))); (case side2 => exact (Kd.R_reads' HO368.out).2.1); rintro e w21 ⟨rfl, hb⟩; have n0_ := Aside0.mk (Kd.R_below (by (with_reducible repeat (first | apply Kd.R_alloc | apply Kd.R_drewN | apply Kd.R_drew)); exact HO368.out) hb); have n1_ := Aside0.mk (blk_below (g := gb365) (o := .cells #[.int .i64 t361, .int .i64 t362, .string t363] 37 (0, 0)) blkA hb); have n2_ := Aside0.mk (below_step (bwA) hb); clear HO368; clear BK365; clear HB; have HO368 := n0_; have BK365 := n1_; have HB := n2_; clear n0_ n1_ n2_; (try clear hb); (try clear hb2); (try clear hk); (try clear hi)))
    repeat (go_quiet (first | (go_at_call 17; (with_reducible refine (schema_Get.calls _ _ l1 a2 t361 t362 t363 t364 _ ?side1 ?side2 ?side3 A12.out).mono ?_); (case side1 => repeat (first | exact (Kd.C_below HR1.out HB.out) | (with_reducible refine Kd.C_alloc ?_ _) | (with_reducible refine Kd.C_drewN ?_ _) | (with_reducible refine Kd.C_drew ?_))); (case side2 => exact HC1.out); (case side3 => exact Tabs.below HT.out (bwA)); rintro e w16 ⟨rfl, hb⟩; have n0_ := Aside0.mk (below_step (bwA) hb); clear HB; have HB := n0_; clear n0_; (try clear hb); (try clear hb2); (try clear hk); (try clear hi)) | ((with_reducible refine gate_dst (N := 7) rfl ?_); (try (refine gate_guard (by rfl) ?_; dsimp only)); refine box_event ?hg (N := 7) ?hd (cs := #[.int .i64 0, .int .i64 0, .string (⟨#[]⟩ : ByteArray)]) (t := 37) ?hr ?_; (case hd => rfl); (case hg => rfl); (case hr => first | (go_simp; done) | (go_simp; rfl)); intro gb365 hg w17 hbox hb; have n0_ := Aside0.mk (below_step (bwA) hb); have n1_ := Aside0.mk (hbox); have n2_ := Aside0.mk ((by rw [hg]; exact (below_size (bwA)) : w.heap.size ≤ gb365)); have n3_ := Aside0.mk ((by rw [hg]; exact (below_size (bwA)) : w.heap.size ≤ gb365)); clear HB; have HB := n0_; have BK365 := n1_; have GW365 := n2_; have GE365 := n3_; clear n0_ n1_ n2_ n3_; clear hb hbox hg; have hcz18_0 : w17.cell? ⟨gb365, 0, none⟩ = some (.int .i64 0) := (blk_cell BK365.out 0).trans rfl; have hcz18_1 : w17.cell? ⟨gb365, 1, none⟩ = some (.int .i64 0) := (blk_cell BK365.out 1).trans rfl; have hcz18_2 : w17.cell? ⟨gb365, 2, none⟩ = some (.string (⟨#[]⟩ : ByteArray)) := (blk_cell BK365.out 2).trans rfl; have hfz18_0 := blk_frozen BK365.out 0; have hfz18_1 := blk_frozen BK365.out 1; have hfz18_2 := blk_frozen BK365.out 2) | (go_at_call 19; (with_reducible refine (caduceuslaw04_Attrs.calls kj3 _ _ l1 t366 _ ?side1 ?side2 A13.out).mono ?_); (case side1 => exact Kd.C_below HR1.out (bwA)); (case side2 => exact HC1.out); rintro e w19 ⟨v367, rfl, ho0, hb⟩; have n0_ := Aside0.mk (Kd.R_lower ho0 (below_size (bwA))); have n1_ := Aside0.mk (blk_below (g := gb365) (o := .cells #[.int .i64 t361, .int .i64 t362, .string t363] 37 (0, 0)) (by (with_reducible repeat (first | refine blk_drewN ?_ _ | refine blk_drew ?_ | refine blk_alloc ?_ _)); refine blk_put (cs := #[.int .i64 t361, .int .i64 t362, .string (⟨#[]⟩ : ByteArray)]) ?_ 2 _ rfl; (with_reducible repeat (first | refine blk_drewN ?_ _ | refine blk_drew ?_ | refine blk_alloc ?_ _)); refine blk_put (cs := #[.int .i64 t361, .int .i64 0, .string (⟨#[]⟩ : ByteArray)]) ?_ 1 _ rfl; (with_reducible repeat (first | refine blk_drewN ?_ _ | refine blk_drew ?_ | refine blk_alloc ?_ _)); refine blk_put (cs := #[.int .i64 0, .int .i64 0, .string (⟨#[]⟩ : ByteArray)]) ?_ 0 _ rfl; (with_reducible repeat (first | refine blk_drewN ?_ _ | refine blk_drew ?_ | refine blk_alloc ?_ _)); exact BK365.out) hb); have n2_ := Aside0.mk (below_step (bwA) hb); clear BK365; clear HB; have HO368 := n0_; have BK365 := n1_; have HB := n2_; clear n0_ n1_ n2_; (try clear hb); (try clear hb2); (try clear hk); (try clear hi); (try clear ho0); obtain ⟨Ao20, co20, eo20⟩ := Kd.R_slice HO368.out; subst eo20) | (go_at_call 18; (with_reducible refine (caduceusref04_Get.calls kj3 _ _ t366 a2 t369 _ ?side1 ?side2 A14.out).mono ?_); (case side1 => repeat (first | exact (Kd.R_reads' HO368.out).2.2 | (with_reducible refine Kd.C_alloc ?_ _) | (with_reducible refine Kd.C_drewN ?_ _) | (with_reducible refine Kd.C_drew ?_))); (case side2 => exact (Kd.R_reads' HO368.out).2.1); rintro e w21 ⟨rfl, hb⟩; have n0_ := Aside0.mk (Kd.R_below (by (with_reducible repeat (first | apply Kd.R_alloc | apply Kd.R_drewN | apply Kd.R_drew)); exact HO368.out) hb); have n1_ := Aside0.mk (blk_below (g := gb365) (o := .cells #[.int .i64 t361, .int .i64 t362, .string t363] 37 (0, 0)) blkA hb); have n2_ := Aside0.mk (below_step (bwA) hb); clear HO368; clear BK365; clear HB; have HO368 := n0_; have BK365 := n1_; have HB := n2_; clear n0_ n1_ n2_; (try clear hb); (try clear hb2); (try clear hk); (try clear hi))); go_upto_region 5 with (first | (go_at_call 17; (with_reducible refine (schema_Get.calls _ _ l1 a2 t361 t362 t363 t364 _ ?side1 ?side2 ?side3 A12.out).mono ?_); (case side1 => repeat (first | exact (Kd.C_below HR1.out HB.out) | (with_reducible refine Kd.C_alloc ?_ _) | (with_reducible refine Kd.C_drewN ?_ _) | (with_reducible refine Kd.C_drew ?_))); (case side2 => exact HC1.out); (case side3 => exact Tabs.below HT.out (bwA)); rintro e w16 ⟨rfl, hb⟩; have n0_ := Aside0.mk (below_step (bwA) hb); clear HB; have HB := n0_; clear n0_; (try clear hb); (try clear hb2); (try clear hk); (try clear hi)) | ((with_reducible refine gate_dst (N := 7) rfl ?_); (try (refine gate_guard (by rfl) ?_; dsimp only)); refine box_event ?hg (N := 7) ?hd (cs := #[.int .i64 0, .int .i64 0, .string (⟨#[]⟩ : ByteArray)]) (t := 37) ?hr ?_; (case hd => rfl); (case hg => rfl); (case hr => first | (go_simp; done) | (go_simp; rfl)); intro gb365 hg w17 hbox hb; have n0_ := Aside0.mk (below_step (bwA) hb); have n1_ := Aside0.mk (hbox); have n2_ := Aside0.mk ((by rw [hg]; exact (below_size (bwA)) : w.heap.size ≤ gb365)); have n3_ := Aside0.mk ((by rw [hg]; exact (below_size (bwA)) : w.heap.size ≤ gb365)); clear HB; have HB := n0_; have BK365 := n1_; have GW365 := n2_; have GE365 := n3_; clear n0_ n1_ n2_ n3_; clear hb hbox hg; have hcz18_0 : w17.cell? ⟨gb365, 0, none⟩ = some (.int .i64 0) := (blk_cell BK365.out 0).trans rfl; have hcz18_1 : w17.cell? ⟨gb365, 1, none⟩ = some (.int .i64 0) := (blk_cell BK365.out 1).trans rfl; have hcz18_2 : w17.cell? ⟨gb365, 2, none⟩ = some (.string (⟨#[]⟩ : ByteArray)) := (blk_cell BK365.out 2).trans rfl; have hfz18_0 := blk_frozen BK365.out 0; have hfz18_1 := blk_frozen BK365.out 1; have hfz18_2 := blk_frozen BK365.out 2) | (go_at_call 19; (with_reducible refine (caduceuslaw04_Attrs.calls kj3 _ _ l1 t366 _ ?side1 ?side2 A13.out).mono ?_); (case side1 => exact Kd.C_below HR1.out (bwA)); (case side2 => exact HC1.out); rintro e w19 ⟨v367, rfl, ho0, hb⟩; have n0_ := Aside0.mk (Kd.R_lower ho0 (below_size (bwA))); have n1_ := Aside0.mk (blk_below (g := gb365) (o := .cells #[.int .i64 t361, .int .i64 t362, .string t363] 37 (0, 0)) (by (with_reducible repeat (first | refine blk_drewN ?_ _ | refine blk_drew ?_ | refine blk_alloc ?_ _)); refine blk_put (cs := #[.int .i64 t361, .int .i64 t362, .string (⟨#[]⟩ : ByteArray)]) ?_ 2 _ rfl; (with_reducible repeat (first | refine blk_drewN ?_ _ | refine blk_drew ?_ | refine blk_alloc ?_ _)); refine blk_put (cs := #[.int .i64 t361, .int .i64 0, .string (⟨#[]⟩ : ByteArray)]) ?_ 1 _ rfl; (with_reducible repeat (first | refine blk_drewN ?_ _ | refine blk_drew ?_ | refine blk_alloc ?_ _)); refine blk_put (cs := #[.int .i64 0, .int .i64 0, .string (⟨#[]⟩ : ByteArray)]) ?_ 0 _ rfl; (with_reducible repeat (first | refine blk_drewN ?_ _ | refine blk_drew ?_ | refine blk_alloc ?_ _)); exact BK365.out) hb); have n2_ := Aside0.mk (below_step (bwA) hb); clear BK365; clear HB; have HO368 := n0_; have BK365 := n1_; have HB := n2_; clear n0_ n1_ n2_; (try clear hb); (try clear hb2); (try clear hk); (try clear hi); (try clear ho0); obtain ⟨Ao20, co20, eo20⟩ := Kd.R_slice HO368.out; subst eo20) | (go_at_call 18; (with_reducible refine (caduceusref04_Get.calls kj3 _ _ t366 a2 t369 _ ?side1 ?side2 A14.out).mono ?_); (case side1 => repeat (first | exact (Kd.R_reads' HO368.out).2.2 | (with_reducible refine Kd.C_alloc ?_ _) | (with_reducible refine Kd.C_drewN ?_ _) | (with_reducible refine Kd.C_drew ?_))); (case side2 => exact (Kd.R_reads' HO368.out).2.1); rintro e w21 ⟨rfl, hb⟩; have n0_ := Aside0.mk (Kd.R_below (by (with_reducible repeat (first | apply Kd.R_alloc | apply Kd.R_drewN | apply Kd.R_drew)); exact HO368.out) hb); have n1_ := Aside0.mk (blk_below (g := gb365) (o := .cells #[.int .i64 t361, .int .i64 t362, .string t363] 37 (0, 0)) blkA hb); have n2_ := Aside0.mk (below_step (bwA) hb); clear HO368; clear BK365; clear HB; have HO368 := n0_; have BK365 := n1_; have HB := n2_; clear n0_ n1_ n2_; (try clear hb); (try clear hb2); (try clear hk); (try clear hi))))
    (try simp only [Act.put, List.setIfInBounds_toArray, List.set_cons_zero, List.set_cons_succ])
    go_cut [58] (fun v58 wc => ∃ (kq : Nat) (x58_14 : Bool), v58 = .bool x58_14 ∧ Aside0 (caduceuslaw04_SchemaFits.j1 kq l0 l1 x58_14 = some r) ∧ Aside0 (kq ≤ kj3) ∧ Aside0 (wc.heap[gb365]? = some (.cells #[.int .i64 t361, .int .i64 t362, .string t363] 37 (0, 0))) ∧ Aside0 (Below w.heap.size w wc))
    case first =>
     have H := HC15.out
     clear HC15
     by_cases c22 : (t364 != (decide (t369 ≥ 0))) = true
     ·rw [if_pos c22] at H
      have c22b0 : (t364 != (decide (t369 ≥ 0))) = true := c22
      (try (have c22b1 : decide (t364 = (decide (t369 ≥ 0))) = false := by simpa using c22))
      (try (have c22b2 : (t364 == (decide (t369 ≥ 0))) = false := by simpa using c22))
      (try (have c22b3 : ¬ (t364 = (decide (t369 ≥ 0))) := by simpa using c22))
      clear c22
      (first | rw [c22b0] | (simp only [i64_w, i32_w]; rw [c22b0]) | skip)
      have H' := Aside0.mk H
      clear H
      go_wp2
      repeat (go_quiet (fail); try go_wp2)
      go_meet
      case rel => exact ⟨_, (true), (endS), H', ⟨by have := HJ3.out; first | omega | exact Nat.le_refl _⟩, ⟨by (with_reducible repeat (first | refine blk_drewN ?_ _ | refine blk_drew ?_ | refine blk_alloc ?_ _)); exact BK365.out⟩, ⟨bwA⟩⟩
     ·rw [if_neg c22] at H
      have c22b0 : (t364 != (decide (t369 ≥ 0))) = false := by simpa using c22
      (try (have c22b1 : decide (t364 = (decide (t369 ≥ 0))) = true := by simpa using c22))
      (try (have c22b2 : (t364 == (decide (t369 ≥ 0))) = true := by simpa using c22))
      clear c22
      (first | rw [c22b0] | (simp only [i64_w, i32_w]; rw [c22b0]) | skip)
      by_cases c23 : t364 = true
      ·subst c23
       have H1 : (if 0 ≤ t369 then (if t369 < (l1.length : Int) then (if (!(t361 == ((rd_T44 l1 t369).f1.f0)) || (!(t362 == ((rd_T44 l1 t369).f1.f1)) || (!(t363.toList == (((rd_T44 l1 t369).f1.f2).toList))))) = true then (caduceuslaw04_SchemaFits.j1 kj3 l0 l1 true) else (caduceuslaw04_SchemaFits.j1 kj3 l0 l1 false)) else (none)) else (none)) = some r := by rw [if_pos rfl] at H; exact H
       clear H
       have H := H1
       clear H1
       by_cases c24 : 0 ≤ t369
       ·rw [if_pos c24] at H
        have c24b0 : decide (0 ≤ t369) = true := decide_eq_true c24
        clear c24
        by_cases c25 : t369 < (l1.length : Int)
        ·rw [if_pos c25] at H
         have c25b0 : decide (t369 < (l1.length : Int)) = true := decide_eq_true c25
         clear c25
         by_cases c26 : (!(t361 == ((rd_T44 l1 t369).f1.f0)) || (!(t362 == ((rd_T44 l1 t369).f1.f1)) || (!(t363.toList == (((rd_T44 l1 t369).f1.f2).toList))))) = true
         ·rw [if_pos c26] at H
          have c26b0 : (!(t361 == ((rd_T44 l1 t369).f1.f0)) || (!(t362 == ((rd_T44 l1 t369).f1.f1)) || (!(t363.toList == (((rd_T44 l1 t369).f1.f2).toList))))) = true := c26
          clear c26
          have H' := Aside0.mk H
          clear H
          have hcz27_0 : w21.cell? ⟨gb365, 0, none⟩ = some (.int .i64 t361) := (blk_cell BK365.out 0).trans rfl
          have hcz27_1 : w21.cell? ⟨gb365, 1, none⟩ = some (.int .i64 t362) := (blk_cell BK365.out 1).trans rfl
          have hcz27_2 : w21.cell? ⟨gb365, 2, none⟩ = some (.string t363) := (blk_cell BK365.out 2).trans rfl
          have hfz27_0 := blk_frozen BK365.out 0
          have hfz27_1 := blk_frozen BK365.out 1
          have hfz27_2 := blk_frozen BK365.out 2
          have p370 : 0 ≤ (t369 : Int) := odA
          have q370 : t369 < (l1.length : Int) := odA
          obtain ⟨ad370, e370, hx370_0, hx370_1, hx370_2, hx370_3⟩ := at_T44 HR1.out t369 p370 q370
          cases e370
          replace hx370_0 := crA hx370_0
          replace hx370_1 := crA hx370_1
          replace hx370_2 := crA hx370_2
          replace hx370_3 := crA hx370_3
          replace p370 := eq_true p370
          replace q370 := eq_true q370
          go_wp2
          repeat (go_quiet (fail); try go_wp2)
          go_meet
          case rel => exact ⟨_, (true), (endS), H', ⟨by have := HJ3.out; first | omega | exact Nat.le_refl _⟩, ⟨by (with_reducible repeat (first | refine blk_drewN ?_ _ | refine blk_drew ?_ | refine blk_alloc ?_ _)); exact BK365.out⟩, ⟨bwA⟩⟩
         ·rw [if_neg c26] at H
          have c26b0 : (!(t361 == ((rd_T44 l1 t369).f1.f0)) || (!(t362 == ((rd_T44 l1 t369).f1.f1)) || (!(t363.toList == (((rd_T44 l1 t369).f1.f2).toList))))) = false := by simpa using c26
          clear c26
          have H' := Aside0.mk H
          clear H
          have hcz28_0 : w21.cell? ⟨gb365, 0, none⟩ = some (.int .i64 t361) := (blk_cell BK365.out 0).trans rfl
          have hcz28_1 : w21.cell? ⟨gb365, 1, none⟩ = some (.int .i64 t362) := (blk_cell BK365.out 1).trans rfl
          have hcz28_2 : w21.cell? ⟨gb365, 2, none⟩ = some (.string t363) := (blk_cell BK365.out 2).trans rfl
          have hfz28_0 := blk_frozen BK365.out 0
          have hfz28_1 := blk_frozen BK365.out 1
          have hfz28_2 := blk_frozen BK365.out 2
          have p370 : 0 ≤ (t369 : Int) := odA
          have q370 : t369 < (l1.length : Int) := odA
          obtain ⟨ad370, e370, hx370_0, hx370_1, hx370_2, hx370_3⟩ := at_T44 HR1.out t369 p370 q370
          cases e370
          replace hx370_0 := crA hx370_0
          replace hx370_1 := crA hx370_1
          replace hx370_2 := crA hx370_2
          replace hx370_3 := crA hx370_3
          replace p370 := eq_true p370
          replace q370 := eq_true q370
          go_wp2
          repeat (go_quiet (fail); try go_wp2)
          go_meet
          case rel => exact ⟨_, (false), (endS), H', ⟨by have := HJ3.out; first | omega | exact Nat.le_refl _⟩, ⟨by (with_reducible repeat (first | refine blk_drewN ?_ _ | refine blk_drew ?_ | refine blk_alloc ?_ _)); exact BK365.out⟩, ⟨bwA⟩⟩
        ·rw [if_neg c25] at H
         exact absurd H (by simp)
       ·rw [if_neg c24] at H
        exact absurd H (by simp)
      ·replace c23 := Bool.eq_false_iff.mpr c23
       subst c23
       have H1 : (caduceuslaw04_SchemaFits.j1 kj3 l0 l1 (!(t361 == 0) || (!(t362 == 0) || (!(t363.toList == ([] : List UInt8)))))) = some r := by rw [if_neg (show ¬ (false = true) by decide)] at H; exact H
       clear H
       have H := H1
       clear H1
       have H' := Aside0.mk H
       clear H
       have hcz29_0 : w21.cell? ⟨gb365, 0, none⟩ = some (.int .i64 t361) := (blk_cell BK365.out 0).trans rfl
       have hcz29_1 : w21.cell? ⟨gb365, 1, none⟩ = some (.int .i64 t362) := (blk_cell BK365.out 1).trans rfl
       have hcz29_2 : w21.cell? ⟨gb365, 2, none⟩ = some (.string t363) := (blk_cell BK365.out 2).trans rfl
       have hfz29_0 := blk_frozen BK365.out 0
       have hfz29_1 := blk_frozen BK365.out 1
       have hfz29_2 := blk_frozen BK365.out 2
       go_wp2
       repeat (go_quiet (fail); try go_wp2)
       go_meet
       case rel => exact ⟨_, ((!(t361 == 0) || (!(t362 == 0) || (!(t363.toList == ([] : List UInt8)))))), (endS), H', ⟨by have := HJ3.out; first | omega | exact Nat.le_refl _⟩, ⟨by (with_reducible repeat (first | refine blk_drewN ?_ _ | refine blk_drew ?_ | refine blk_alloc ?_ _)); exact BK365.out⟩, ⟨bwA⟩⟩
    case rest =>
     clear HC15
     try clear c1
     try clear c2
     try clear p2
     try clear p3
     try clear q3
     try clear hx3
     try clear c4
     try clear c6
     try clear c8
     try clear c9
     try clear c22
     try clear c22b0
     try clear c22b1
     try clear c22b2
     try clear c23
     try clear c24
     try clear c24b0
     try clear c25
     try clear c25b0
     try clear c26
     try clear c26b0
     try clear hcz18_0
     try clear hcz18_1
     try clear hcz18_2
     try clear hcz27_0
     try clear hcz27_1
     try clear hcz27_2
     try clear hcz28_0
     try clear hcz28_1
     try clear hcz28_2
     try clear hcz29_0
     try clear hcz29_1
     try clear hcz29_2
     try clear hfz18_0
     try clear hfz18_1
     try clear hfz18_2
     try clear hfz27_0
     try clear hfz27_1
     try clear hfz27_2
     try clear hfz28_0
     try clear hfz28_1
     try clear hfz28_2
     try clear hfz29_0
     try clear hfz29_1
     try clear hfz29_2
     try clear hx370_0
     try clear hx370_1
     try clear hx370_2
     try clear hx370_3
     try clear p2
     try clear p370
     try clear q370
     obtain ⟨kq, x58_14, rfl, HA, HJ14, BK365, HB⟩ := hcut
     cases kq with
     | zero => exact absurd HA.out (by simp [caduceuslaw04_SchemaFits.j1])
     | succ kj14 =>
      have H := HA.out
      clear HA
      simp only [caduceuslaw04_SchemaFits.j1] at H
      by_cases c30 : x58_14 = true
      ·subst c30
       have H1 : (none) = some r := by rw [if_pos rfl] at H; exact H
       clear H
       have H := H1
       clear H1
       exact absurd H (by simp)
      ·replace c30 := Bool.eq_false_iff.mpr c30
       subst c30
       have H1 : ((caduceuslaw04_awake.f kj14).bind fun t371 => (if t371 = true then ((schema_Fits.f kj14 l0 l1).bind fun t372 => ((caduceuslaw04_Refs.f kj14 l0).bind fun t373 => ((caduceuslaw04_Attrs.f kj14 l1).bind fun t376 => ((caduceusref04_Fits.f kj14 t373 t376).bind fun t379 => (if t372 = t379 then ((schema_Attrs.f kj14 l1).bind fun t380 => ((caduceuslaw04_Attrs.f kj14 l1).bind fun t381 => ((caduceusref04_Attrs.f kj14 t381).bind fun t384 => (some (t380 == t384))))) else (none)))))) else (none))) = some r := by rw [if_neg (show ¬ (false = true) by decide)] at H; exact H
       clear H
       have H := H1
       clear H1
       replace H := Option.bind_eq_some_iff.mp H
       obtain ⟨t371, A310, H⟩ := H
       replace H : (if t371 = true then ((schema_Fits.f kj14 l0 l1).bind fun t372 => ((caduceuslaw04_Refs.f kj14 l0).bind fun t373 => ((caduceuslaw04_Attrs.f kj14 l1).bind fun t376 => ((caduceusref04_Fits.f kj14 t373 t376).bind fun t379 => (if t372 = t379 then ((schema_Attrs.f kj14 l1).bind fun t380 => ((caduceuslaw04_Attrs.f kj14 l1).bind fun t381 => ((caduceusref04_Attrs.f kj14 t381).bind fun t384 => (some (t380 == t384))))) else (none)))))) else (none)) = some r := H
       have A31 := Aside0.mk A310
       clear A310
       by_cases c32 : t371 = true
       ·subst c32
        have H1 : ((schema_Fits.f kj14 l0 l1).bind fun t372 => ((caduceuslaw04_Refs.f kj14 l0).bind fun t373 => ((caduceuslaw04_Attrs.f kj14 l1).bind fun t376 => ((caduceusref04_Fits.f kj14 t373 t376).bind fun t379 => (if t372 = t379 then ((schema_Attrs.f kj14 l1).bind fun t380 => ((caduceuslaw04_Attrs.f kj14 l1).bind fun t381 => ((caduceusref04_Attrs.f kj14 t381).bind fun t384 => (some (t380 == t384))))) else (none)))))) = some r := by rw [if_pos rfl] at H; exact H
        clear H
        have H := H1
        clear H1
        replace H := Option.bind_eq_some_iff.mp H
        obtain ⟨t372, A330, H⟩ := H
        replace H : ((caduceuslaw04_Refs.f kj14 l0).bind fun t373 => ((caduceuslaw04_Attrs.f kj14 l1).bind fun t376 => ((caduceusref04_Fits.f kj14 t373 t376).bind fun t379 => (if t372 = t379 then ((schema_Attrs.f kj14 l1).bind fun t380 => ((caduceuslaw04_Attrs.f kj14 l1).bind fun t381 => ((caduceusref04_Attrs.f kj14 t381).bind fun t384 => (some (t380 == t384))))) else (none))))) = some r := H
        have A33 := Aside0.mk A330
        clear A330
        replace H := Option.bind_eq_some_iff.mp H
        obtain ⟨t373, A340, H⟩ := H
        replace H : ((caduceuslaw04_Attrs.f kj14 l1).bind fun t376 => ((caduceusref04_Fits.f kj14 t373 t376).bind fun t379 => (if t372 = t379 then ((schema_Attrs.f kj14 l1).bind fun t380 => ((caduceuslaw04_Attrs.f kj14 l1).bind fun t381 => ((caduceusref04_Attrs.f kj14 t381).bind fun t384 => (some (t380 == t384))))) else (none)))) = some r := H
        have A34 := Aside0.mk A340
        clear A340
        replace H := Option.bind_eq_some_iff.mp H
        obtain ⟨t376, A350, H⟩ := H
        replace H : ((caduceusref04_Fits.f kj14 t373 t376).bind fun t379 => (if t372 = t379 then ((schema_Attrs.f kj14 l1).bind fun t380 => ((caduceuslaw04_Attrs.f kj14 l1).bind fun t381 => ((caduceusref04_Attrs.f kj14 t381).bind fun t384 => (some (t380 == t384))))) else (none))) = some r := H
        have A35 := Aside0.mk A350
        clear A350
        replace H := Option.bind_eq_some_iff.mp H
        obtain ⟨t379, A360, H⟩ := H
        replace H : (if t372 = t379 then ((schema_Attrs.f kj14 l1).bind fun t380 => ((caduceuslaw04_Attrs.f kj14 l1).bind fun t381 => ((caduceusref04_Attrs.f kj14 t381).bind fun t384 => (some (t380 == t384))))) else (none)) = some r := H
        have A36 := Aside0.mk A360
        clear A360
        by_cases c37 : t372 = t379
        ·rw [if_pos c37] at H
         have c37b0 : (t372 == t379) = true := beq_iff_eq.mpr c37
         have c37b1 : (t372 != t379) = false := bne_eq_false_iff_eq.mpr c37
         clear c37
         replace H := Option.bind_eq_some_iff.mp H
         obtain ⟨t380, A380, H⟩ := H
         replace H : ((caduceuslaw04_Attrs.f kj14 l1).bind fun t381 => ((caduceusref04_Attrs.f kj14 t381).bind fun t384 => (some (t380 == t384)))) = some r := H
         have A38 := Aside0.mk A380
         clear A380
         replace H := Option.bind_eq_some_iff.mp H
         obtain ⟨t381, A390, H⟩ := H
         replace H : ((caduceusref04_Attrs.f kj14 t381).bind fun t384 => (some (t380 == t384))) = some r := H
         have A39 := Aside0.mk A390
         clear A390
         replace H := Option.bind_eq_some_iff.mp H
         obtain ⟨t384, A400, H⟩ := H
         replace H : (some (t380 == t384)) = some r := H
         have A40 := Aside0.mk A400
         clear A400
         obtain rfl := Option.some.inj H
         go_wp2_with (first | (go_at_call 9; (with_reducible refine (caduceuslaw04_awake.calls kj14  true _ ?side1 A31.out).mono ?_); (case side1 => exact Tabs.below HT.out (bwA)); rintro e w41 ⟨rfl, hb⟩; have n0_ := Aside0.mk (blk_below (g := gb365) (o := .cells #[.int .i64 t361, .int .i64 t362, .string t363] 37 (0, 0)) blkA hb); have n1_ := Aside0.mk (below_step (bwA) hb); clear BK365; clear HB; have BK365 := n0_; have HB := n1_; clear n0_ n1_; (try clear hb); (try clear hb2); (try clear hk); (try clear hi)) | (go_at_call 20; (with_reducible refine (schema_Fits.calls kj14 _ _ l0 _ _ l1 t372 _ ?side1 ?side2 ?side3 ?side4 ?side5 A33.out).mono ?_); (case side1 => repeat (first | exact (Kd.C_below HR0.out HB.out) | (with_reducible refine Kd.C_alloc ?_ _) | (with_reducible refine Kd.C_drewN ?_ _) | (with_reducible refine Kd.C_drew ?_))); (case side2 => exact HC0.out); (case side3 => repeat (first | exact (Kd.C_below HR1.out HB.out) | (with_reducible refine Kd.C_alloc ?_ _) | (with_reducible refine Kd.C_drewN ?_ _) | (with_reducible refine Kd.C_drew ?_))); (case side4 => exact HC1.out); (case side5 => exact Tabs.below HT.out (bwA)); rintro e w42 ⟨rfl, hb⟩; have n0_ := Aside0.mk (blk_below (g := gb365) (o := .cells #[.int .i64 t361, .int .i64 t362, .string t363] 37 (0, 0)) blkA hb); have n1_ := Aside0.mk (below_step (bwA) hb); clear BK365; clear HB; have BK365 := n0_; have HB := n1_; clear n0_ n1_; (try clear hb); (try clear hb2); (try clear hk); (try clear hi)) | (go_at_call 12; (with_reducible refine (caduceuslaw04_Refs.calls kj14 _ _ l0 t373 _ ?side1 ?side2 A34.out).mono ?_); (case side1 => repeat (first | exact (Kd.C_below HR0.out HB.out) | (with_reducible refine Kd.C_alloc ?_ _) | (with_reducible refine Kd.C_drewN ?_ _) | (with_reducible refine Kd.C_drew ?_))); (case side2 => exact HC0.out); rintro e w43 ⟨v374, rfl, ho0, hb⟩; have n0_ := Aside0.mk (Kd.R_lower ho0 (below_size (bwA))); have n1_ := Aside0.mk (blk_below (g := gb365) (o := .cells #[.int .i64 t361, .int .i64 t362, .string t363] 37 (0, 0)) blkA hb); have n2_ := Aside0.mk (below_step (bwA) hb); clear BK365; clear HB; have HO375 := n0_; have BK365 := n1_; have HB := n2_; clear n0_ n1_ n2_; (try clear hb); (try clear hb2); (try clear hk); (try clear hi); (try clear ho0)) | (go_at_call 19; (with_reducible refine (caduceuslaw04_Attrs.calls kj14 _ _ l1 t376 _ ?side1 ?side2 A35.out).mono ?_); (case side1 => repeat (first | exact (Kd.C_below HR1.out HB.out) | (with_reducible refine Kd.C_alloc ?_ _) | (with_reducible refine Kd.C_drewN ?_ _) | (with_reducible refine Kd.C_drew ?_))); (case side2 => exact HC1.out); rintro e w44 ⟨v377, rfl, ho0, hb⟩; have n0_ := Aside0.mk (Kd.R_below (by (with_reducible repeat (first | apply Kd.R_alloc | apply Kd.R_drewN | apply Kd.R_drew)); exact HO375.out) hb); have n1_ := Aside0.mk (Kd.R_lower ho0 (below_size (bwA))); have n2_ := Aside0.mk (blk_below (g := gb365) (o := .cells #[.int .i64 t361, .int .i64 t362, .string t363] 37 (0, 0)) blkA hb); have n3_ := Aside0.mk (below_step (bwA) hb); clear HO375; clear BK365; clear HB; have HO375 := n0_; have HO378 := n1_; have BK365 := n2_; have HB := n3_; clear n0_ n1_ n2_ n3_; (try clear hb); (try clear hb2); (try clear hk); (try clear hi); (try clear ho0); obtain ⟨Ao45, co45, eo45⟩ := Kd.R_slice HO375.out; subst eo45; obtain ⟨Ao46, co46, eo46⟩ := Kd.R_slice HO378.out; subst eo46) | (go_at_call 21; (with_reducible refine (caduceusref04_Fits.calls kj14 _ _ t373 _ _ t376 t379 _ ?side1 ?side2 ?side3 ?side4 A36.out).mono ?_); (case side1 => repeat (first | exact (Kd.R_reads' HO375.out).2.2 | (with_reducible refine Kd.C_alloc ?_ _) | (with_reducible refine Kd.C_drewN ?_ _) | (with_reducible refine Kd.C_drew ?_))); (case side2 => exact (Kd.R_reads' HO375.out).2.1); (case side3 => repeat (first | exact (Kd.R_reads' HO378.out).2.2 | (with_reducible refine Kd.C_alloc ?_ _) | (with_reducible refine Kd.C_drewN ?_ _) | (with_reducible refine Kd.C_drew ?_))); (case side4 => exact (Kd.R_reads' HO378.out).2.1); rintro e w47 ⟨rfl, hb⟩; have n0_ := Aside0.mk (Kd.R_below (by (with_reducible repeat (first | apply Kd.R_alloc | apply Kd.R_drewN | apply Kd.R_drew)); exact HO375.out) hb); have n1_ := Aside0.mk (Kd.R_below (by (with_reducible repeat (first | apply Kd.R_alloc | apply Kd.R_drewN | apply Kd.R_drew)); exact HO378.out) hb); have n2_ := Aside0.mk (blk_below (g := gb365) (o := .cells #[.int .i64 t361, .int .i64 t362, .string t363] 37 (0, 0)) blkA hb); have n3_ := Aside0.mk (below_step (bwA) hb); clear HO375; clear HO378; clear BK365; clear HB; have HO375 := n0_; have HO378 := n1_; have BK365 := n2_; have HB := n3_; clear n0_ n1_ n2_ n3_; (try clear hb); (try clear hb2); (try clear hk); (try clear hi)) | (go_at_call 22; (with_reducible refine (schema_Attrs.calls kj14 _ _ l1 t380 _ ?side1 ?side2 ?side3 A38.out).mono ?_); (case side1 => repeat (first | exact (Kd.C_below HR1.out HB.out) | (with_reducible refine Kd.C_alloc ?_ _) | (with_reducible refine Kd.C_drewN ?_ _) | (with_reducible refine Kd.C_drew ?_))); (case side2 => exact HC1.out); (case side3 => exact Tabs.below HT.out (bwA)); rintro e w48 ⟨rfl, hb⟩; have n0_ := Aside0.mk (Kd.R_below (by (with_reducible repeat (first | apply Kd.R_alloc | apply Kd.R_drewN | apply Kd.R_drew)); exact HO375.out) hb); have n1_ := Aside0.mk (Kd.R_below (by (with_reducible repeat (first | apply Kd.R_alloc | apply Kd.R_drewN | apply Kd.R_drew)); exact HO378.out) hb); have n2_ := Aside0.mk (blk_below (g := gb365) (o := .cells #[.int .i64 t361, .int .i64 t362, .string t363] 37 (0, 0)) blkA hb); have n3_ := Aside0.mk (below_step (bwA) hb); clear HO375; clear HO378; clear BK365; clear HB; have HO375 := n0_; have HO378 := n1_; have BK365 := n2_; have HB := n3_; clear n0_ n1_ n2_ n3_; (try clear hb); (try clear hb2); (try clear hk); (try clear hi)) | (go_at_call 19; (with_reducible refine (caduceuslaw04_Attrs.calls kj14 _ _ l1 t381 _ ?side1 ?side2 A39.out).mono ?_); (case side1 => repeat (first | exact (Kd.C_below HR1.out HB.out) | (with_reducible refine Kd.C_alloc ?_ _) | (with_reducible refine Kd.C_drewN ?_ _) | (with_reducible refine Kd.C_drew ?_))); (case side2 => exact HC1.out); rintro e w49 ⟨v382, rfl, ho0, hb⟩; have n0_ := Aside0.mk (Kd.R_below (by (with_reducible repeat (first | apply Kd.R_alloc | apply Kd.R_drewN | apply Kd.R_drew)); exact HO375.out) hb); have n1_ := Aside0.mk (Kd.R_elder' (by (with_reducible repeat (first | apply Kd.R_alloc | apply Kd.R_drewN | apply Kd.R_drew)); exact HO378.out) (Kd.R_base ho0) hb); have n2_ := Aside0.mk (Kd.R_lower (Kd.R_new' ho0 (Kd.R_lt (by (with_reducible repeat (first | apply Kd.R_alloc | apply Kd.R_drewN | apply Kd.R_drew)); exact HO378.out))) (below_size (bwA))); have n3_ := Aside0.mk (blk_below (g := gb365) (o := .cells #[.int .i64 t361, .int .i64 t362, .string t363] 37 (0, 0)) blkA hb); have n4_ := Aside0.mk (below_step (bwA) hb); clear HO375; clear HO378; clear BK365; clear HB; have HO375 := n0_; have HO378 := n1_; have HO383 := n2_; have BK365 := n3_; have HB := n4_; clear n0_ n1_ n2_ n3_ n4_; (try clear hb); (try clear hb2); (try clear hk); (try clear hi); (try clear ho0); obtain ⟨Ao50, co50, eo50⟩ := Kd.R_slice HO383.out; subst eo50) | (go_at_call 23; (with_reducible refine (caduceusref04_Attrs.calls kj14 _ _ t381 t384 _ ?side1 ?side2 A40.out).mono ?_); (case side1 => repeat (first | exact (Kd.R_reads' HO383.out).2.2 | (with_reducible refine Kd.C_alloc ?_ _) | (with_reducible refine Kd.C_drewN ?_ _) | (with_reducible refine Kd.C_drew ?_))); (case side2 => exact (Kd.R_reads' HO383.out).2.1); rintro e w51 ⟨rfl, hb⟩; have n0_ := Aside0.mk (Kd.R_below (by (with_reducible repeat (first | apply Kd.R_alloc | apply Kd.R_drewN | apply Kd.R_drew)); exact HO375.out) hb); have n1_ := Aside0.mk (Kd.R_below (by (with_reducible repeat (first | apply Kd.R_alloc | apply Kd.R_drewN | apply Kd.R_drew)); exact HO378.out) hb); have n2_ := Aside0.mk (Kd.R_below (by (with_reducible repeat (first | apply Kd.R_alloc | apply Kd.R_drewN | apply Kd.R_drew)); exact HO383.out) hb); have n3_ := Aside0.mk (blk_below (g := gb365) (o := .cells #[.int .i64 t361, .int .i64 t362, .string t363] 37 (0, 0)) blkA hb); have n4_ := Aside0.mk (below_step (bwA) hb); clear HO375; clear HO378; clear HO383; clear BK365; clear HB; have HO375 := n0_; have HO378 := n1_; have HO383 := n2_; have BK365 := n3_; have HB := n4_; clear n0_ n1_ n2_ n3_ n4_; (try clear hb); (try clear hb2); (try clear hk); (try clear hi)))
         repeat (go_quiet (first | (go_at_call 9; (with_reducible refine (caduceuslaw04_awake.calls kj14  true _ ?side1 A31.out).mono ?_); (case side1 => exact Tabs.below HT.out (bwA)); rintro e w41 ⟨rfl, hb⟩; have n0_ := Aside0.mk (blk_below (g := gb365) (o := .cells #[.int .i64 t361, .int .i64 t362, .string t363] 37 (0, 0)) blkA hb); have n1_ := Aside0.mk (below_step (bwA) hb); clear BK365; clear HB; have BK365 := n0_; have HB := n1_; clear n0_ n1_; (try clear hb); (try clear hb2); (try clear hk); (try clear hi)) | (go_at_call 20; (with_reducible refine (schema_Fits.calls kj14 _ _ l0 _ _ l1 t372 _ ?side1 ?side2 ?side3 ?side4 ?side5 A33.out).mono ?_); (case side1 => repeat (first | exact (Kd.C_below HR0.out HB.out) | (with_reducible refine Kd.C_alloc ?_ _) | (with_reducible refine Kd.C_drewN ?_ _) | (with_reducible refine Kd.C_drew ?_))); (case side2 => exact HC0.out); (case side3 => repeat (first | exact (Kd.C_below HR1.out HB.out) | (with_reducible refine Kd.C_alloc ?_ _) | (with_reducible refine Kd.C_drewN ?_ _) | (with_reducible refine Kd.C_drew ?_))); (case side4 => exact HC1.out); (case side5 => exact Tabs.below HT.out (bwA)); rintro e w42 ⟨rfl, hb⟩; have n0_ := Aside0.mk (blk_below (g := gb365) (o := .cells #[.int .i64 t361, .int .i64 t362, .string t363] 37 (0, 0)) blkA hb); have n1_ := Aside0.mk (below_step (bwA) hb); clear BK365; clear HB; have BK365 := n0_; have HB := n1_; clear n0_ n1_; (try clear hb); (try clear hb2); (try clear hk); (try clear hi)) | (go_at_call 12; (with_reducible refine (caduceuslaw04_Refs.calls kj14 _ _ l0 t373 _ ?side1 ?side2 A34.out).mono ?_); (case side1 => repeat (first | exact (Kd.C_below HR0.out HB.out) | (with_reducible refine Kd.C_alloc ?_ _) | (with_reducible refine Kd.C_drewN ?_ _) | (with_reducible refine Kd.C_drew ?_))); (case side2 => exact HC0.out); rintro e w43 ⟨v374, rfl, ho0, hb⟩; have n0_ := Aside0.mk (Kd.R_lower ho0 (below_size (bwA))); have n1_ := Aside0.mk (blk_below (g := gb365) (o := .cells #[.int .i64 t361, .int .i64 t362, .string t363] 37 (0, 0)) blkA hb); have n2_ := Aside0.mk (below_step (bwA) hb); clear BK365; clear HB; have HO375 := n0_; have BK365 := n1_; have HB := n2_; clear n0_ n1_ n2_; (try clear hb); (try clear hb2); (try clear hk); (try clear hi); (try clear ho0)) | (go_at_call 19; (with_reducible refine (caduceuslaw04_Attrs.calls kj14 _ _ l1 t376 _ ?side1 ?side2 A35.out).mono ?_); (case side1 => repeat (first | exact (Kd.C_below HR1.out HB.out) | (with_reducible refine Kd.C_alloc ?_ _) | (with_reducible refine Kd.C_drewN ?_ _) | (with_reducible refine Kd.C_drew ?_))); (case side2 => exact HC1.out); rintro e w44 ⟨v377, rfl, ho0, hb⟩; have n0_ := Aside0.mk (Kd.R_below (by (with_reducible repeat (first | apply Kd.R_alloc | apply Kd.R_drewN | apply Kd.R_drew)); exact HO375.out) hb); have n1_ := Aside0.mk (Kd.R_lower ho0 (below_size (bwA))); have n2_ := Aside0.mk (blk_below (g := gb365) (o := .cells #[.int .i64 t361, .int .i64 t362, .string t363] 37 (0, 0)) blkA hb); have n3_ := Aside0.mk (below_step (bwA) hb); clear HO375; clear BK365; clear HB; have HO375 := n0_; have HO378 := n1_; have BK365 := n2_; have HB := n3_; clear n0_ n1_ n2_ n3_; (try clear hb); (try clear hb2); (try clear hk); (try clear hi); (try clear ho0); obtain ⟨Ao45, co45, eo45⟩ := Kd.R_slice HO375.out; subst eo45; obtain ⟨Ao46, co46, eo46⟩ := Kd.R_slice HO378.out; subst eo46) | (go_at_call 21; (with_reducible refine (caduceusref04_Fits.calls kj14 _ _ t373 _ _ t376 t379 _ ?side1 ?side2 ?side3 ?side4 A36.out).mono ?_); (case side1 => repeat (first | exact (Kd.R_reads' HO375.out).2.2 | (with_reducible refine Kd.C_alloc ?_ _) | (with_reducible refine Kd.C_drewN ?_ _) | (with_reducible refine Kd.C_drew ?_))); (case side2 => exact (Kd.R_reads' HO375.out).2.1); (case side3 => repeat (first | exact (Kd.R_reads' HO378.out).2.2 | (with_reducible refine Kd.C_alloc ?_ _) | (with_reducible refine Kd.C_drewN ?_ _) | (with_reducible refine Kd.C_drew ?_))); (case side4 => exact (Kd.R_reads' HO378.out).2.1); rintro e w47 ⟨rfl, hb⟩; have n0_ := Aside0.mk (Kd.R_below (by (with_reducible repeat (first | apply Kd.R_alloc | apply Kd.R_drewN | apply Kd.R_drew)); exact HO375.out) hb); have n1_ := Aside0.mk (Kd.R_below (by (with_reducible repeat (first | apply Kd.R_alloc | apply Kd.R_drewN | apply Kd.R_drew)); exact HO378.out) hb); have n2_ := Aside0.mk (blk_below (g := gb365) (o := .cells #[.int .i64 t361, .int .i64 t362, .string t363] 37 (0, 0)) blkA hb); have n3_ := Aside0.mk (below_step (bwA) hb); clear HO375; clear HO378; clear BK365; clear HB; have HO375 := n0_; have HO378 := n1_; have BK365 := n2_; have HB := n3_; clear n0_ n1_ n2_ n3_; (try clear hb); (try clear hb2); (try clear hk); (try clear hi)) | (go_at_call 22; (with_reducible refine (schema_Attrs.calls kj14 _ _ l1 t380 _ ?side1 ?side2 ?side3 A38.out).mono ?_); (case side1 => repeat (first | exact (Kd.C_below HR1.out HB.out) | (with_reducible refine Kd.C_alloc ?_ _) | (with_reducible refine Kd.C_drewN ?_ _) | (with_reducible refine Kd.C_drew ?_))); (case side2 => exact HC1.out); (case side3 => exact Tabs.below HT.out (bwA)); rintro e w48 ⟨rfl, hb⟩; have n0_ := Aside0.mk (Kd.R_below (by (with_reducible repeat (first | apply Kd.R_alloc | apply Kd.R_drewN | apply Kd.R_drew)); exact HO375.out) hb); have n1_ := Aside0.mk (Kd.R_below (by (with_reducible repeat (first | apply Kd.R_alloc | apply Kd.R_drewN | apply Kd.R_drew)); exact HO378.out) hb); have n2_ := Aside0.mk (blk_below (g := gb365) (o := .cells #[.int .i64 t361, .int .i64 t362, .string t363] 37 (0, 0)) blkA hb); have n3_ := Aside0.mk (below_step (bwA) hb); clear HO375; clear HO378; clear BK365; clear HB; have HO375 := n0_; have HO378 := n1_; have BK365 := n2_; have HB := n3_; clear n0_ n1_ n2_ n3_; (try clear hb); (try clear hb2); (try clear hk); (try clear hi)) | (go_at_call 19; (with_reducible refine (caduceuslaw04_Attrs.calls kj14 _ _ l1 t381 _ ?side1 ?side2 A39.out).mono ?_); (case side1 => repeat (first | exact (Kd.C_below HR1.out HB.out) | (with_reducible refine Kd.C_alloc ?_ _) | (with_reducible refine Kd.C_drewN ?_ _) | (with_reducible refine Kd.C_drew ?_))); (case side2 => exact HC1.out); rintro e w49 ⟨v382, rfl, ho0, hb⟩; have n0_ := Aside0.mk (Kd.R_below (by (with_reducible repeat (first | apply Kd.R_alloc | apply Kd.R_drewN | apply Kd.R_drew)); exact HO375.out) hb); have n1_ := Aside0.mk (Kd.R_elder' (by (with_reducible repeat (first | apply Kd.R_alloc | apply Kd.R_drewN | apply Kd.R_drew)); exact HO378.out) (Kd.R_base ho0) hb); have n2_ := Aside0.mk (Kd.R_lower (Kd.R_new' ho0 (Kd.R_lt (by (with_reducible repeat (first | apply Kd.R_alloc | apply Kd.R_drewN | apply Kd.R_drew)); exact HO378.out))) (below_size (bwA))); have n3_ := Aside0.mk (blk_below (g := gb365) (o := .cells #[.int .i64 t361, .int .i64 t362, .string t363] 37 (0, 0)) blkA hb); have n4_ := Aside0.mk (below_step (bwA) hb); clear HO375; clear HO378; clear BK365; clear HB; have HO375 := n0_; have HO378 := n1_; have HO383 := n2_; have BK365 := n3_; have HB := n4_; clear n0_ n1_ n2_ n3_ n4_; (try clear hb); (try clear hb2); (try clear hk); (try clear hi); (try clear ho0); obtain ⟨Ao50, co50, eo50⟩ := Kd.R_slice HO383.out; subst eo50) | (go_at_call 23; (with_reducible refine (caduceusref04_Attrs.calls kj14 _ _ t381 t384 _ ?side1 ?side2 A40.out).mono ?_); (case side1 => repeat (first | exact (Kd.R_reads' HO383.out).2.2 | (with_reducible refine Kd.C_alloc ?_ _) | (with_reducible refine Kd.C_drewN ?_ _) | (with_reducible refine Kd.C_drew ?_))); (case side2 => exact (Kd.R_reads' HO383.out).2.1); rintro e w51 ⟨rfl, hb⟩; have n0_ := Aside0.mk (Kd.R_below (by (with_reducible repeat (first | apply Kd.R_alloc | apply Kd.R_drewN | apply Kd.R_drew)); exact HO375.out) hb); have n1_ := Aside0.mk (Kd.R_below (by (with_reducible repeat (first | apply Kd.R_alloc | apply Kd.R_drewN | apply Kd.R_drew)); exact HO378.out) hb); have n2_ := Aside0.mk (Kd.R_below (by (with_reducible repeat (first | apply Kd.R_alloc | apply Kd.R_drewN | apply Kd.R_drew)); exact HO383.out) hb); have n3_ := Aside0.mk (blk_below (g := gb365) (o := .cells #[.int .i64 t361, .int .i64 t362, .string t363] 37 (0, 0)) blkA hb); have n4_ := Aside0.mk (below_step (bwA) hb); clear HO375; clear HO378; clear HO383; clear BK365; clear HB; have HO375 := n0_; have HO378 := n1_; have HO383 := n2_; have BK365 := n3_; have HB := n4_; clear n0_ n1_ n2_ n3_ n4_; (try clear hb); (try clear hb2); (try clear hk); (try clear hi))); try go_wp2_with (first | (go_at_call 9; (with_reducible refine (caduceuslaw04_awake.calls kj14  true _ ?side1 A31.out).mono ?_); (case side1 => exact Tabs.below HT.out (bwA)); rintro e w41 ⟨rfl, hb⟩; have n0_ := Aside0.mk (blk_below (g := gb365) (o := .cells #[.int .i64 t361, .int .i64 t362, .string t363] 37 (0, 0)) blkA hb); have n1_ := Aside0.mk (below_step (bwA) hb); clear BK365; clear HB; have BK365 := n0_; have HB := n1_; clear n0_ n1_; (try clear hb); (try clear hb2); (try clear hk); (try clear hi)) | (go_at_call 20; (with_reducible refine (schema_Fits.calls kj14 _ _ l0 _ _ l1 t372 _ ?side1 ?side2 ?side3 ?side4 ?side5 A33.out).mono ?_); (case side1 => repeat (first | exact (Kd.C_below HR0.out HB.out) | (with_reducible refine Kd.C_alloc ?_ _) | (with_reducible refine Kd.C_drewN ?_ _) | (with_reducible refine Kd.C_drew ?_))); (case side2 => exact HC0.out); (case side3 => repeat (first | exact (Kd.C_below HR1.out HB.out) | (with_reducible refine Kd.C_alloc ?_ _) | (with_reducible refine Kd.C_drewN ?_ _) | (with_reducible refine Kd.C_drew ?_))); (case side4 => exact HC1.out); (case side5 => exact Tabs.below HT.out (bwA)); rintro e w42 ⟨rfl, hb⟩; have n0_ := Aside0.mk (blk_below (g := gb365) (o := .cells #[.int .i64 t361, .int .i64 t362, .string t363] 37 (0, 0)) blkA hb); have n1_ := Aside0.mk (below_step (bwA) hb); clear BK365; clear HB; have BK365 := n0_; have HB := n1_; clear n0_ n1_; (try clear hb); (try clear hb2); (try clear hk); (try clear hi)) | (go_at_call 12; (with_reducible refine (caduceuslaw04_Refs.calls kj14 _ _ l0 t373 _ ?side1 ?side2 A34.out).mono ?_); (case side1 => repeat (first | exact (Kd.C_below HR0.out HB.out) | (with_reducible refine Kd.C_alloc ?_ _) | (with_reducible refine Kd.C_drewN ?_ _) | (with_reducible refine Kd.C_drew ?_))); (case side2 => exact HC0.out); rintro e w43 ⟨v374, rfl, ho0, hb⟩; have n0_ := Aside0.mk (Kd.R_lower ho0 (below_size (bwA))); have n1_ := Aside0.mk (blk_below (g := gb365) (o := .cells #[.int .i64 t361, .int .i64 t362, .string t363] 37 (0, 0)) blkA hb); have n2_ := Aside0.mk (below_step (bwA) hb); clear BK365; clear HB; have HO375 := n0_; have BK365 := n1_; have HB := n2_; clear n0_ n1_ n2_; (try clear hb); (try clear hb2); (try clear hk); (try clear hi); (try clear ho0)) | (go_at_call 19; (with_reducible refine (caduceuslaw04_Attrs.calls kj14 _ _ l1 t376 _ ?side1 ?side2 A35.out).mono ?_); (case side1 => repeat (first | exact (Kd.C_below HR1.out HB.out) | (with_reducible refine Kd.C_alloc ?_ _) | (with_reducible refine Kd.C_drewN ?_ _) | (with_reducible refine Kd.C_drew ?_))); (case side2 => exact HC1.out); rintro e w44 ⟨v377, rfl, ho0, hb⟩; have n0_ := Aside0.mk (Kd.R_below (by (with_reducible repeat (first | apply Kd.R_alloc | apply Kd.R_drewN | apply Kd.R_drew)); exact HO375.out) hb); have n1_ := Aside0.mk (Kd.R_lower ho0 (below_size (bwA))); have n2_ := Aside0.mk (blk_below (g := gb365) (o := .cells #[.int .i64 t361, .int .i64 t362, .string t363] 37 (0, 0)) blkA hb); have n3_ := Aside0.mk (below_step (bwA) hb); clear HO375; clear BK365; clear HB; have HO375 := n0_; have HO378 := n1_; have BK365 := n2_; have HB := n3_; clear n0_ n1_ n2_ n3_; (try clear hb); (try clear hb2); (try clear hk); (try clear hi); (try clear ho0); obtain ⟨Ao45, co45, eo45⟩ := Kd.R_slice HO375.out; subst eo45; obtain ⟨Ao46, co46, eo46⟩ := Kd.R_slice HO378.out; subst eo46) | (go_at_call 21; (with_reducible refine (caduceusref04_Fits.calls kj14 _ _ t373 _ _ t376 t379 _ ?side1 ?side2 ?side3 ?side4 A36.out).mono ?_); (case side1 => repeat (first | exact (Kd.R_reads' HO375.out).2.2 | (with_reducible refine Kd.C_alloc ?_ _) | (with_reducible refine Kd.C_drewN ?_ _) | (with_reducible refine Kd.C_drew ?_))); (case side2 => exact (Kd.R_reads' HO375.out).2.1); (case side3 => repeat (first | exact (Kd.R_reads' HO378.out).2.2 | (with_reducible refine Kd.C_alloc ?_ _) | (with_reducible refine Kd.C_drewN ?_ _) | (with_reducible refine Kd.C_drew ?_))); (case side4 => exact (Kd.R_reads' HO378.out).2.1); rintro e w47 ⟨rfl, hb⟩; have n0_ := Aside0.mk (Kd.R_below (by (with_reducible repeat (first | apply Kd.R_alloc | apply Kd.R_drewN | apply Kd.R_drew)); exact HO375.out) hb); have n1_ := Aside0.mk (Kd.R_below (by (with_reducible repeat (first | apply Kd.R_alloc | apply Kd.R_drewN | apply Kd.R_drew)); exact HO378.out) hb); have n2_ := Aside0.mk (blk_below (g := gb365) (o := .cells #[.int .i64 t361, .int .i64 t362, .string t363] 37 (0, 0)) blkA hb); have n3_ := Aside0.mk (below_step (bwA) hb); clear HO375; clear HO378; clear BK365; clear HB; have HO375 := n0_; have HO378 := n1_; have BK365 := n2_; have HB := n3_; clear n0_ n1_ n2_ n3_; (try clear hb); (try clear hb2); (try clear hk); (try clear hi)) | (go_at_call 22; (with_reducible refine (schema_Attrs.calls kj14 _ _ l1 t380 _ ?side1 ?side2 ?side3 A38.out).mono ?_); (case side1 => repeat (first | exact (Kd.C_below HR1.out HB.out) | (with_reducible refine Kd.C_alloc ?_ _) | (with_reducible refine Kd.C_drewN ?_ _) | (with_reducible refine Kd.C_drew ?_))); (case side2 => exact HC1.out); (case side3 => exact Tabs.below HT.out (bwA)); rintro e w48 ⟨rfl, hb⟩; have n0_ := Aside0.mk (Kd.R_below (by (with_reducible repeat (first | apply Kd.R_alloc | apply Kd.R_drewN | apply Kd.R_drew)); exact HO375.out) hb); have n1_ := Aside0.mk (Kd.R_below (by (with_reducible repeat (first | apply Kd.R_alloc | apply Kd.R_drewN | apply Kd.R_drew)); exact HO378.out) hb); have n2_ := Aside0.mk (blk_below (g := gb365) (o := .cells #[.int .i64 t361, .int .i64 t362, .string t363] 37 (0, 0)) blkA hb); have n3_ := Aside0.mk (below_step (bwA) hb); clear HO375; clear HO378; clear BK365; clear HB; have HO375 := n0_; have HO378 := n1_; have BK365 := n2_; have HB := n3_; clear n0_ n1_ n2_ n3_; (try clear hb); (try clear hb2); (try clear hk); (try clear hi)) | (go_at_call 19; (with_reducible refine (caduceuslaw04_Attrs.calls kj14 _ _ l1 t381 _ ?side1 ?side2 A39.out).mono ?_); (case side1 => repeat (first | exact (Kd.C_below HR1.out HB.out) | (with_reducible refine Kd.C_alloc ?_ _) | (with_reducible refine Kd.C_drewN ?_ _) | (with_reducible refine Kd.C_drew ?_))); (case side2 => exact HC1.out); rintro e w49 ⟨v382, rfl, ho0, hb⟩; have n0_ := Aside0.mk (Kd.R_below (by (with_reducible repeat (first | apply Kd.R_alloc | apply Kd.R_drewN | apply Kd.R_drew)); exact HO375.out) hb); have n1_ := Aside0.mk (Kd.R_elder' (by (with_reducible repeat (first | apply Kd.R_alloc | apply Kd.R_drewN | apply Kd.R_drew)); exact HO378.out) (Kd.R_base ho0) hb); have n2_ := Aside0.mk (Kd.R_lower (Kd.R_new' ho0 (Kd.R_lt (by (with_reducible repeat (first | apply Kd.R_alloc | apply Kd.R_drewN | apply Kd.R_drew)); exact HO378.out))) (below_size (bwA))); have n3_ := Aside0.mk (blk_below (g := gb365) (o := .cells #[.int .i64 t361, .int .i64 t362, .string t363] 37 (0, 0)) blkA hb); have n4_ := Aside0.mk (below_step (bwA) hb); clear HO375; clear HO378; clear BK365; clear HB; have HO375 := n0_; have HO378 := n1_; have HO383 := n2_; have BK365 := n3_; have HB := n4_; clear n0_ n1_ n2_ n3_ n4_; (try clear hb); (try clear hb2); (try clear hk); (try clear hi); (try clear ho0); obtain ⟨Ao50, co50, eo50⟩ := Kd.R_slice HO383.out; subst eo50) | (go_at_call 23; (with_reducible refine (caduceusref04_Attrs.calls kj14 _ _ t381 t384 _ ?side1 ?side2 A40.out).mono ?_); (case side1 => repeat (first | exact (Kd.R_reads' HO383.out).2.2 | (with_reducible refine Kd.C_alloc ?_ _) | (with_reducible refine Kd.C_drewN ?_ _) | (with_reducible refine Kd.C_drew ?_))); (case side2 => exact (Kd.R_reads' HO383.out).2.1); rintro e w51 ⟨rfl, hb⟩; have n0_ := Aside0.mk (Kd.R_below (by (with_reducible repeat (first | apply Kd.R_alloc | apply Kd.R_drewN | apply Kd.R_drew)); exact HO375.out) hb); have n1_ := Aside0.mk (Kd.R_below (by (with_reducible repeat (first | apply Kd.R_alloc | apply Kd.R_drewN | apply Kd.R_drew)); exact HO378.out) hb); have n2_ := Aside0.mk (Kd.R_below (by (with_reducible repeat (first | apply Kd.R_alloc | apply Kd.R_drewN | apply Kd.R_drew)); exact HO383.out) hb); have n3_ := Aside0.mk (blk_below (g := gb365) (o := .cells #[.int .i64 t361, .int .i64 t362, .string t363] 37 (0, 0)) blkA hb); have n4_ := Aside0.mk (below_step (bwA) hb); clear HO375; clear HO378; clear HO383; clear BK365; clear HB; have HO375 := n0_; have HO378 := n1_; have HO383 := n2_; have BK365 := n3_; have HB := n4_; clear n0_ n1_ n2_ n3_ n4_; (try clear hb); (try clear hb2); (try clear hk); (try clear hi))))
         go_ret
         exact ⟨endA, bwA⟩
        ·rw [if_neg c37] at H
         exact absurd H (by simp)
       ·replace c32 := Bool.eq_false_iff.mpr c32
        subst c32
        have H1 : (none) = some r := by rw [if_neg (show ¬ (false = true) by decide)] at H; exact H
        clear H
        have H := H1
        clear H1
        exact absurd H (by simp)

end Go.Proofs.YtnbbajiabbmdmaaGreatDoor.A
