-- By drv.py, the session's own driver round the kit's print: the machine's side of the laws, function by function. Not trusted: Lean checks it.
import Derived.Test.YtnbbajiabbmdmaaGreatDoorAx0
import Derived.Test.YtnbbajiabbmdmaaGreatDoorAx33
import Derived.Test.YtnbbajiabbmdmaaGreatDoorAx35
import Derived.Test.YtnbbajiabbmdmaaGreatDoorAx36
import Derived.Test.YtnbbajiabbmdmaaGreatDoorAx37
namespace Go.Proofs.YtnbbajiabbmdmaaGreatDoor.A
open Go.RowKit Go.Proofs.YtnbbajiabbmdmaaGreatDoorW.PrintWords Go.Proofs.YtnbbajiabbmdmaaGreatDoorW.PrintLast Go.Proofs.YtnbbajiabbmdmaaGreatDoorW.PrintMore
attribute [local go_sem] max2_int min2_int max_two min_two max_three min_three max_four min_four   -- for this text's walks alone
set_option linter.unusedVariables false
set_option linter.unusedSimpArgs false

/-! ### caduceusref04_Fits: function 21 -/
mutual
def caduceusref04_Fits.j0 : Nat → List (S72) → List (S79) → Bool → Option (Int)
 | 0, _, _, _ => none
 | k + 1, x0, x1, x15 => if x15 = true then (some 1) else (caduceusref04_Fits.l0 k x0 x1 0)
def caduceusref04_Fits.l0 : Nat → List (S72) → List (S79) → Int → Option (Int)
 | 0, _, _, _ => none
 | k + 1, x0, x1, x5 => if x5 < (x1.length : Int) then (if 0 ≤ x5 then ((caduceusref04_Find.f k x0 ((rd_T79 x1 x5).f0)).bind fun t352 => (if t352 < 0 then (some 4) else (if 0 ≤ t352 then (if t352 < (x0.length : Int) then (if ((rd_T72 x0 t352).f1) = ((rd_T79 x1 x5).f1.f0) then (caduceusref04_Fits.l0 k x0 x1 (wrap64 (x5 + 1))) else (some 8)) else (none)) else (none)))) else (none)) else (caduceusref04_Fits.l1 k x0 x1 0)
def caduceusref04_Fits.l1 : Nat → List (S72) → List (S79) → Int → Option (Int)
 | 0, _, _, _ => none
 | k + 1, x0, x1, x7 => if x7 < (x0.length : Int) then (if 0 ≤ x7 then (if (rd_T72 x0 x7).f2 = true then ((caduceusref04_Get.f k x1 ((rd_T72 x0 x7).f0)).bind fun t357 => (if t357 < 0 then (some 7) else (caduceusref04_Fits.l1 k x0 x1 (wrap64 (x7 + 1))))) else (caduceusref04_Fits.l1 k x0 x1 (wrap64 (x7 + 1)))) else (none)) else (some 0)
end
def caduceusref04_Fits.f (k : Nat) (l0 : List (S72)) (l1 : List (S79)) : Option (Int) := (caduceusref04_Check.f k l0).bind fun t349 => (if t349 = true then ((caduceusref04_Attrs.f k l1).bind fun t350 => (caduceusref04_Fits.j0 k l0 l1 (!t350))) else (caduceusref04_Fits.j0 k l0 l1 true))
theorem caduceusref04_Fits.mono_l : ∀ k, (∀ y0 y1 y2, LeO (caduceusref04_Fits.j0 k y0 y1 y2) (caduceusref04_Fits.j0 (k + 1) y0 y1 y2)) ∧ (∀ y0 y1 y2, LeO (caduceusref04_Fits.l0 k y0 y1 y2) (caduceusref04_Fits.l0 (k + 1) y0 y1 y2)) ∧ (∀ y0 y1 y2, LeO (caduceusref04_Fits.l1 k y0 y1 y2) (caduceusref04_Fits.l1 (k + 1) y0 y1 y2))
 | 0 => ⟨fun _ _ _ r h => by simp [caduceusref04_Fits.j0] at h, fun _ _ _ r h => by simp [caduceusref04_Fits.l0] at h, fun _ _ _ r h => by simp [caduceusref04_Fits.l1] at h⟩
 | k + 1 => by
  obtain ⟨ih0, ih1, ih2⟩ := caduceusref04_Fits.mono_l k
  refine ⟨?_, ?_, ?_⟩
  all_goals intros
  all_goals first | unfold caduceusref04_Fits.j0 | unfold caduceusref04_Fits.l0 | unfold caduceusref04_Fits.l1
  all_goals repeat' first
   | (with_reducible exact ih0 _ _ _)
   | (with_reducible exact ih1 _ _ _)
   | (with_reducible exact ih2 _ _ _)
   | (with_reducible exact caduceusref04_Attrs.mono _ _)
   | (with_reducible exact caduceusref04_Check.mono _ _)
   | (with_reducible exact caduceusref04_Find.mono _ _ _)
   | (with_reducible exact caduceusref04_Get.mono _ _ _)
   | (with_reducible exact LeO.refl _)
   | (with_reducible exact LeO.none _)
   | (with_reducible refine LeO.ite ?_ ?_)
   | (with_reducible refine LeO.bind ?_ (fun _ => ?_))
   | exact ih0 _ _ _
   | exact ih1 _ _ _
   | exact ih2 _ _ _
   | exact caduceusref04_Attrs.mono _ _
   | exact caduceusref04_Check.mono _ _
   | exact caduceusref04_Find.mono _ _ _
   | exact caduceusref04_Get.mono _ _ _
   | exact LeO.none _
   | refine LeO.ite ?_ ?_
   | refine LeO.bind ?_ (fun _ => ?_)
theorem caduceusref04_Fits.mono : ∀ a0 a1 k, LeO (caduceusref04_Fits.f k a0 a1) (caduceusref04_Fits.f (k + 1) a0 a1) := by
 intro a0 a1 k
 obtain ⟨ih0, ih1, ih2⟩ := caduceusref04_Fits.mono_l k
 unfold caduceusref04_Fits.f
 repeat' first
   | (with_reducible exact ih0 _ _ _)
   | (with_reducible exact ih1 _ _ _)
   | (with_reducible exact ih2 _ _ _)
   | (with_reducible exact caduceusref04_Attrs.mono _ _)
   | (with_reducible exact caduceusref04_Check.mono _ _)
   | (with_reducible exact caduceusref04_Find.mono _ _ _)
   | (with_reducible exact caduceusref04_Get.mono _ _ _)
   | (with_reducible exact LeO.refl _)
   | (with_reducible exact LeO.none _)
   | (with_reducible refine LeO.ite ?_ ?_)
   | (with_reducible refine LeO.bind ?_ (fun _ => ?_))
   | exact ih0 _ _ _
   | exact ih1 _ _ _
   | exact ih2 _ _ _
   | exact caduceusref04_Attrs.mono _ _
   | exact caduceusref04_Check.mono _ _
   | exact caduceusref04_Find.mono _ _ _
   | exact caduceusref04_Get.mono _ _ _
   | exact LeO.none _
   | refine LeO.ite ?_ ?_
   | refine LeO.bind ?_ (fun _ => ?_)
set_option maxHeartbeats 8000000 in
set_option maxRecDepth 100000 in
theorem caduceusref04_Fits.calls (k : Nat) (A0 : Option Addr) (c0 : Nat) (l0 : List (S72)) (A1 : Option Addr) (c1 : Nat) (l1 : List (S79)) (r : Int) (w : World) (hr0 : Kd.C k72 w A0 l0.length l0) (hc0 : l0.length ≤ c0) (hr1 : Kd.C k79 w A1 l1.length l1) (hc1 : l1.length ≤ c1) (h : caduceusref04_Fits.f k l0 l1 = some r) :
  Calls Tryz.prog 21 #[.slice A0 l0.length c0, .slice A1 l1.length c1] w fun e w' => e = .returned (.int .i64 r) ∧ Below w.heap.size w w' := by
 have HR0 := Aside0.mk hr0
 have HC0 := Aside0.mk hc0
 clear hr0 hc0
 have HR1 := Aside0.mk hr1
 have HC1 := Aside0.mk hc1
 clear hr1 hc1
 have HB := Aside0.mk (Below.refl w.heap.size w)
 have H : ((caduceusref04_Check.f k l0).bind fun t349 => (if t349 = true then ((caduceusref04_Attrs.f k l1).bind fun t350 => (caduceusref04_Fits.j0 k l0 l1 (!t350))) else (caduceusref04_Fits.j0 k l0 l1 true))) = some r := h
 clear h
 have HC3 := Aside0.mk H
 clear H
 go_enter Tryz.func21, Tryz.ntmps21
 go_upto_region 1 with (fail)
 repeat (go_quiet (fail); go_upto_region 1 with (fail))
 go_cut [15] (fun v15 wc => ∃ (kq : Nat) (x15_2 : Bool), v15 = .bool x15_2 ∧ Aside0 (caduceusref04_Fits.j0 kq l0 l1 x15_2 = some r) ∧ Aside0 (kq ≤ k) ∧ Aside0 (Below w.heap.size w wc))
 case first =>
  have H := HC3.out
  clear HC3
  replace H := Option.bind_eq_some_iff.mp H
  obtain ⟨t349, A40, H⟩ := H
  replace H : (if t349 = true then ((caduceusref04_Attrs.f k l1).bind fun t350 => (caduceusref04_Fits.j0 k l0 l1 (!t350))) else (caduceusref04_Fits.j0 k l0 l1 true)) = some r := H
  have A4 := Aside0.mk A40
  clear A40
  by_cases c5 : t349 = true
  ·subst c5
   have H1 : ((caduceusref04_Attrs.f k l1).bind fun t350 => (caduceusref04_Fits.j0 k l0 l1 (!t350))) = some r := by rw [if_pos rfl] at H; exact H
   clear H
   have H := H1
   clear H1
   replace H := Option.bind_eq_some_iff.mp H
   obtain ⟨t350, A60, H⟩ := H
   replace H : (caduceusref04_Fits.j0 k l0 l1 (!t350)) = some r := H
   have A6 := Aside0.mk A60
   clear A60
   have H' := Aside0.mk H
   clear H
   go_wp2_with (first | (go_at_call 14; (with_reducible refine (caduceusref04_Check.calls k _ _ l0 true _ ?side1 ?side2 A4.out).mono ?_); (case side1 => repeat (first | exact (Kd.C_below HR0.out HB.out) | (with_reducible refine Kd.C_alloc ?_ _) | (with_reducible refine Kd.C_drewN ?_ _) | (with_reducible refine Kd.C_drew ?_))); (case side2 => exact HC0.out); rintro e w7 ⟨rfl, hb⟩; have n0_ := Aside0.mk (below_step (bwA) hb); clear HB; have HB := n0_; clear n0_; (try clear hb); (try clear hb2); (try clear hk); (try clear hi)) | (go_at_call 23; (with_reducible refine (caduceusref04_Attrs.calls k _ _ l1 t350 _ ?side1 ?side2 A6.out).mono ?_); (case side1 => repeat (first | exact (Kd.C_below HR1.out HB.out) | (with_reducible refine Kd.C_alloc ?_ _) | (with_reducible refine Kd.C_drewN ?_ _) | (with_reducible refine Kd.C_drew ?_))); (case side2 => exact HC1.out); rintro e w8 ⟨rfl, hb⟩; have n0_ := Aside0.mk (below_step (bwA) hb); clear HB; have HB := n0_; clear n0_; (try clear hb); (try clear hb2); (try clear hk); (try clear hi)))
   repeat (go_quiet (first | (go_at_call 14; (with_reducible refine (caduceusref04_Check.calls k _ _ l0 true _ ?side1 ?side2 A4.out).mono ?_); (case side1 => repeat (first | exact (Kd.C_below HR0.out HB.out) | (with_reducible refine Kd.C_alloc ?_ _) | (with_reducible refine Kd.C_drewN ?_ _) | (with_reducible refine Kd.C_drew ?_))); (case side2 => exact HC0.out); rintro e w7 ⟨rfl, hb⟩; have n0_ := Aside0.mk (below_step (bwA) hb); clear HB; have HB := n0_; clear n0_; (try clear hb); (try clear hb2); (try clear hk); (try clear hi)) | (go_at_call 23; (with_reducible refine (caduceusref04_Attrs.calls k _ _ l1 t350 _ ?side1 ?side2 A6.out).mono ?_); (case side1 => repeat (first | exact (Kd.C_below HR1.out HB.out) | (with_reducible refine Kd.C_alloc ?_ _) | (with_reducible refine Kd.C_drewN ?_ _) | (with_reducible refine Kd.C_drew ?_))); (case side2 => exact HC1.out); rintro e w8 ⟨rfl, hb⟩; have n0_ := Aside0.mk (below_step (bwA) hb); clear HB; have HB := n0_; clear n0_; (try clear hb); (try clear hb2); (try clear hk); (try clear hi))); try go_wp2_with (first | (go_at_call 14; (with_reducible refine (caduceusref04_Check.calls k _ _ l0 true _ ?side1 ?side2 A4.out).mono ?_); (case side1 => repeat (first | exact (Kd.C_below HR0.out HB.out) | (with_reducible refine Kd.C_alloc ?_ _) | (with_reducible refine Kd.C_drewN ?_ _) | (with_reducible refine Kd.C_drew ?_))); (case side2 => exact HC0.out); rintro e w7 ⟨rfl, hb⟩; have n0_ := Aside0.mk (below_step (bwA) hb); clear HB; have HB := n0_; clear n0_; (try clear hb); (try clear hb2); (try clear hk); (try clear hi)) | (go_at_call 23; (with_reducible refine (caduceusref04_Attrs.calls k _ _ l1 t350 _ ?side1 ?side2 A6.out).mono ?_); (case side1 => repeat (first | exact (Kd.C_below HR1.out HB.out) | (with_reducible refine Kd.C_alloc ?_ _) | (with_reducible refine Kd.C_drewN ?_ _) | (with_reducible refine Kd.C_drew ?_))); (case side2 => exact HC1.out); rintro e w8 ⟨rfl, hb⟩; have n0_ := Aside0.mk (below_step (bwA) hb); clear HB; have HB := n0_; clear n0_; (try clear hb); (try clear hb2); (try clear hk); (try clear hi))))
   go_meet
   case rel => exact ⟨_, (!t350), (endS), H', ⟨by first | omega | exact Nat.le_refl _⟩, ⟨bwA⟩⟩
  ·replace c5 := Bool.eq_false_iff.mpr c5
   subst c5
   have H1 : (caduceusref04_Fits.j0 k l0 l1 true) = some r := by rw [if_neg (show ¬ (false = true) by decide)] at H; exact H
   clear H
   have H := H1
   clear H1
   have H' := Aside0.mk H
   clear H
   go_wp2_with (first | (go_at_call 14; (with_reducible refine (caduceusref04_Check.calls k _ _ l0 false _ ?side1 ?side2 A4.out).mono ?_); (case side1 => repeat (first | exact (Kd.C_below HR0.out HB.out) | (with_reducible refine Kd.C_alloc ?_ _) | (with_reducible refine Kd.C_drewN ?_ _) | (with_reducible refine Kd.C_drew ?_))); (case side2 => exact HC0.out); rintro e w9 ⟨rfl, hb⟩; have n0_ := Aside0.mk (below_step (bwA) hb); clear HB; have HB := n0_; clear n0_; (try clear hb); (try clear hb2); (try clear hk); (try clear hi)))
   repeat (go_quiet (first | (go_at_call 14; (with_reducible refine (caduceusref04_Check.calls k _ _ l0 false _ ?side1 ?side2 A4.out).mono ?_); (case side1 => repeat (first | exact (Kd.C_below HR0.out HB.out) | (with_reducible refine Kd.C_alloc ?_ _) | (with_reducible refine Kd.C_drewN ?_ _) | (with_reducible refine Kd.C_drew ?_))); (case side2 => exact HC0.out); rintro e w9 ⟨rfl, hb⟩; have n0_ := Aside0.mk (below_step (bwA) hb); clear HB; have HB := n0_; clear n0_; (try clear hb); (try clear hb2); (try clear hk); (try clear hi))); try go_wp2_with (first | (go_at_call 14; (with_reducible refine (caduceusref04_Check.calls k _ _ l0 false _ ?side1 ?side2 A4.out).mono ?_); (case side1 => repeat (first | exact (Kd.C_below HR0.out HB.out) | (with_reducible refine Kd.C_alloc ?_ _) | (with_reducible refine Kd.C_drewN ?_ _) | (with_reducible refine Kd.C_drew ?_))); (case side2 => exact HC0.out); rintro e w9 ⟨rfl, hb⟩; have n0_ := Aside0.mk (below_step (bwA) hb); clear HB; have HB := n0_; clear n0_; (try clear hb); (try clear hb2); (try clear hk); (try clear hi))))
   go_meet
   case rel => exact ⟨_, (true), (endS), H', ⟨by first | omega | exact Nat.le_refl _⟩, ⟨bwA⟩⟩
 case rest =>
  clear HC3
  try clear c1
  try clear c2
  try clear p2
  try clear c5
  obtain ⟨kq, x15_2, rfl, HA, HJ2, HB⟩ := hcut
  cases kq with
  | zero => exact absurd HA.out (by simp [caduceusref04_Fits.j0])
  | succ kj2 =>
   have H := HA.out
   clear HA
   simp only [caduceusref04_Fits.j0] at H
   by_cases c10 : x15_2 = true
   ·subst c10
    have H1 : (some 1) = some r := by rw [if_pos rfl] at H; exact H
    clear H
    have H := H1
    clear H1
    obtain rfl := Option.some.inj H
    go_wp2
    repeat (go_quiet (fail); try go_wp2)
    go_ret
    exact ⟨endA, bwA⟩
   ·replace c10 := Bool.eq_false_iff.mpr c10
    subst c10
    have H1 : (caduceusref04_Fits.l0 kj2 l0 l1 0) = some r := by rw [if_neg (show ¬ (false = true) by decide)] at H; exact H
    clear H
    have H := H1
    clear H1
    have H' := Aside0.mk H
    clear H
    go_wp2
    repeat (go_quiet (fail); try go_wp2)
    go_loopg [5] kj2 (fun kq v5 w' => ∃ (x5_2 : Int), v5 = .int .i64 x5_2 ∧ Aside0 (caduceusref04_Fits.l0 kq l0 l1 x5_2 = some r) ∧ Aside0 (kq ≤ kj2) ∧ Aside0 (Below w.heap.size w w'))
    case atStart => exact ⟨(0), (endS), H', ⟨Nat.le_refl _⟩, ⟨bwA⟩⟩
    case round =>
     clear H'
     try clear c1
     try clear c2
     try clear p2
     try clear c5
     try clear c10
     try clear p2
     obtain ⟨x5_2, rfl, HA, HK2, HB⟩ := hrel
     cases gk with
     | zero => exact absurd HA.out (by simp [caduceusref04_Fits.l0])
     | succ k2 =>
      have H := HA.out
      clear HA
      simp only [caduceusref04_Fits.l0] at H
      by_cases c11 : x5_2 < (l1.length : Int)
      ·rw [if_pos c11] at H
       have c11b0 : decide (x5_2 < (l1.length : Int)) = true := decide_eq_true c11
       clear c11
       by_cases c12 : 0 ≤ x5_2
       ·rw [if_pos c12] at H
        have c12b0 : decide (0 ≤ x5_2) = true := decide_eq_true c12
        clear c12
        replace H := Option.bind_eq_some_iff.mp H
        obtain ⟨t352, A130, H⟩ := H
        replace H : (if t352 < 0 then (some 4) else (if 0 ≤ t352 then (if t352 < (l0.length : Int) then (if ((rd_T72 l0 t352).f1) = ((rd_T79 l1 x5_2).f1.f0) then (caduceusref04_Fits.l0 k2 l0 l1 (wrap64 (x5_2 + 1))) else (some 8)) else (none)) else (none))) = some r := H
        have A13 := Aside0.mk A130
        clear A130
        by_cases c14 : t352 < 0
        ·rw [if_pos c14] at H
         have c14b0 : decide (t352 < 0) = true := decide_eq_true c14
         clear c14
         obtain rfl := Option.some.inj H
         have p351 : 0 ≤ (x5_2 : Int) := odA
         have q351 : x5_2 < (l1.length : Int) := odA
         obtain ⟨ad351, e351, hx351_0, hx351_1, hx351_2, hx351_3⟩ := at_T79 HR1.out x5_2 p351 q351
         cases e351
         replace hx351_0 := crA hx351_0
         replace hx351_1 := crA hx351_1
         replace hx351_2 := crA hx351_2
         replace hx351_3 := crA hx351_3
         replace p351 := eq_true p351
         replace q351 := eq_true q351
         go_wp2_with (first | (go_at_call 50; (with_reducible refine (caduceusref04_Find.calls k2 _ _ l0 ((rd_T79 l1 x5_2).f0) t352 _ ?side1 ?side2 A13.out).mono ?_); (case side1 => repeat (first | exact (Kd.C_below HR0.out HB.out) | (with_reducible refine Kd.C_alloc ?_ _) | (with_reducible refine Kd.C_drewN ?_ _) | (with_reducible refine Kd.C_drew ?_))); (case side2 => exact HC0.out); rintro e w15 ⟨rfl, hb⟩; have n0_ := Aside0.mk (below_step (bwA) hb); clear HB; have HB := n0_; clear n0_; (try clear hb); (try clear hb2); (try clear hk); (try clear hi)))
         repeat (go_quiet (first | (go_at_call 50; (with_reducible refine (caduceusref04_Find.calls k2 _ _ l0 ((rd_T79 l1 x5_2).f0) t352 _ ?side1 ?side2 A13.out).mono ?_); (case side1 => repeat (first | exact (Kd.C_below HR0.out HB.out) | (with_reducible refine Kd.C_alloc ?_ _) | (with_reducible refine Kd.C_drewN ?_ _) | (with_reducible refine Kd.C_drew ?_))); (case side2 => exact HC0.out); rintro e w15 ⟨rfl, hb⟩; have n0_ := Aside0.mk (below_step (bwA) hb); clear HB; have HB := n0_; clear n0_; (try clear hb); (try clear hb2); (try clear hk); (try clear hi))); try go_wp2_with (first | (go_at_call 50; (with_reducible refine (caduceusref04_Find.calls k2 _ _ l0 ((rd_T79 l1 x5_2).f0) t352 _ ?side1 ?side2 A13.out).mono ?_); (case side1 => repeat (first | exact (Kd.C_below HR0.out HB.out) | (with_reducible refine Kd.C_alloc ?_ _) | (with_reducible refine Kd.C_drewN ?_ _) | (with_reducible refine Kd.C_drew ?_))); (case side2 => exact HC0.out); rintro e w15 ⟨rfl, hb⟩; have n0_ := Aside0.mk (below_step (bwA) hb); clear HB; have HB := n0_; clear n0_; (try clear hb); (try clear hb2); (try clear hk); (try clear hi))))
         go_ret
         exact ⟨endA, bwA⟩
        ·rw [if_neg c14] at H
         have c14b0 : decide (t352 < 0) = false := decide_eq_false c14
         clear c14
         by_cases c16 : 0 ≤ t352
         ·rw [if_pos c16] at H
          have c16b0 : decide (0 ≤ t352) = true := decide_eq_true c16
          clear c16
          by_cases c17 : t352 < (l0.length : Int)
          ·rw [if_pos c17] at H
           have c17b0 : decide (t352 < (l0.length : Int)) = true := decide_eq_true c17
           clear c17
           by_cases c18 : ((rd_T72 l0 t352).f1) = ((rd_T79 l1 x5_2).f1.f0)
           ·rw [if_pos c18] at H
            have c18b0 : (((rd_T72 l0 t352).f1) == ((rd_T79 l1 x5_2).f1.f0)) = true := beq_iff_eq.mpr c18
            have c18b1 : (((rd_T72 l0 t352).f1) != ((rd_T79 l1 x5_2).f1.f0)) = false := bne_eq_false_iff_eq.mpr c18
            clear c18
            have H' := Aside0.mk H
            clear H
            have p351 : 0 ≤ (x5_2 : Int) := odA
            have q351 : x5_2 < (l1.length : Int) := odA
            obtain ⟨ad351, e351, hx351_0, hx351_1, hx351_2, hx351_3⟩ := at_T79 HR1.out x5_2 p351 q351
            cases e351
            replace hx351_0 := crA hx351_0
            replace hx351_1 := crA hx351_1
            replace hx351_2 := crA hx351_2
            replace hx351_3 := crA hx351_3
            replace p351 := eq_true p351
            replace q351 := eq_true q351
            go_wp2_with (first | (go_at_call 50; (with_reducible refine (caduceusref04_Find.calls k2 _ _ l0 ((rd_T79 l1 x5_2).f0) t352 _ ?side1 ?side2 A13.out).mono ?_); (case side1 => repeat (first | exact (Kd.C_below HR0.out HB.out) | (with_reducible refine Kd.C_alloc ?_ _) | (with_reducible refine Kd.C_drewN ?_ _) | (with_reducible refine Kd.C_drew ?_))); (case side2 => exact HC0.out); rintro e w19 ⟨rfl, hb⟩; have n0_ := Aside0.mk (below_step (bwA) hb); clear HB; have HB := n0_; clear n0_; (try clear hb); (try clear hb2); (try clear hk); (try clear hi); have p353 : 0 ≤ (t352 : Int) := odA; have q353 : t352 < (l0.length : Int) := odA; obtain ⟨ad353, e353, hx353_0, hx353_1, hx353_2⟩ := at_T72 HR0.out t352 p353 q353; cases e353; replace hx353_0 := crA hx353_0; replace hx353_1 := crA hx353_1; replace hx353_2 := crA hx353_2; replace p353 := eq_true p353; replace q353 := eq_true q353; have p354 : 0 ≤ (x5_2 : Int) := odA; have q354 : x5_2 < (l1.length : Int) := odA; obtain ⟨ad354, e354, hx354_0, hx354_1, hx354_2, hx354_3⟩ := at_T79 HR1.out x5_2 p354 q354; obtain rfl : ad351 = ad354 := (by injection e354); replace hx354_0 := crA hx354_0; replace hx354_1 := crA hx354_1; replace hx354_2 := crA hx354_2; replace hx354_3 := crA hx354_3; replace p354 := eq_true p354; replace q354 := eq_true q354))
            repeat (go_quiet (first | (go_at_call 50; (with_reducible refine (caduceusref04_Find.calls k2 _ _ l0 ((rd_T79 l1 x5_2).f0) t352 _ ?side1 ?side2 A13.out).mono ?_); (case side1 => repeat (first | exact (Kd.C_below HR0.out HB.out) | (with_reducible refine Kd.C_alloc ?_ _) | (with_reducible refine Kd.C_drewN ?_ _) | (with_reducible refine Kd.C_drew ?_))); (case side2 => exact HC0.out); rintro e w19 ⟨rfl, hb⟩; have n0_ := Aside0.mk (below_step (bwA) hb); clear HB; have HB := n0_; clear n0_; (try clear hb); (try clear hb2); (try clear hk); (try clear hi); have p353 : 0 ≤ (t352 : Int) := odA; have q353 : t352 < (l0.length : Int) := odA; obtain ⟨ad353, e353, hx353_0, hx353_1, hx353_2⟩ := at_T72 HR0.out t352 p353 q353; cases e353; replace hx353_0 := crA hx353_0; replace hx353_1 := crA hx353_1; replace hx353_2 := crA hx353_2; replace p353 := eq_true p353; replace q353 := eq_true q353; have p354 : 0 ≤ (x5_2 : Int) := odA; have q354 : x5_2 < (l1.length : Int) := odA; obtain ⟨ad354, e354, hx354_0, hx354_1, hx354_2, hx354_3⟩ := at_T79 HR1.out x5_2 p354 q354; obtain rfl : ad351 = ad354 := (by injection e354); replace hx354_0 := crA hx354_0; replace hx354_1 := crA hx354_1; replace hx354_2 := crA hx354_2; replace hx354_3 := crA hx354_3; replace p354 := eq_true p354; replace q354 := eq_true q354)); try go_wp2_with (first | (go_at_call 50; (with_reducible refine (caduceusref04_Find.calls k2 _ _ l0 ((rd_T79 l1 x5_2).f0) t352 _ ?side1 ?side2 A13.out).mono ?_); (case side1 => repeat (first | exact (Kd.C_below HR0.out HB.out) | (with_reducible refine Kd.C_alloc ?_ _) | (with_reducible refine Kd.C_drewN ?_ _) | (with_reducible refine Kd.C_drew ?_))); (case side2 => exact HC0.out); rintro e w19 ⟨rfl, hb⟩; have n0_ := Aside0.mk (below_step (bwA) hb); clear HB; have HB := n0_; clear n0_; (try clear hb); (try clear hb2); (try clear hk); (try clear hi); have p353 : 0 ≤ (t352 : Int) := odA; have q353 : t352 < (l0.length : Int) := odA; obtain ⟨ad353, e353, hx353_0, hx353_1, hx353_2⟩ := at_T72 HR0.out t352 p353 q353; cases e353; replace hx353_0 := crA hx353_0; replace hx353_1 := crA hx353_1; replace hx353_2 := crA hx353_2; replace p353 := eq_true p353; replace q353 := eq_true q353; have p354 : 0 ≤ (x5_2 : Int) := odA; have q354 : x5_2 < (l1.length : Int) := odA; obtain ⟨ad354, e354, hx354_0, hx354_1, hx354_2, hx354_3⟩ := at_T79 HR1.out x5_2 p354 q354; obtain rfl : ad351 = ad354 := (by injection e354); replace hx354_0 := crA hx354_0; replace hx354_1 := crA hx354_1; replace hx354_2 := crA hx354_2; replace hx354_3 := crA hx354_3; replace p354 := eq_true p354; replace q354 := eq_true q354)))
            go_roundg k2
            case measure => have := HJ2.out; have := HK2.out; omega
            case rel => exact ⟨(wrap64 (x5_2 + 1)), (endS), H', ⟨by have := HJ2.out; have := HK2.out; omega⟩, ⟨bwA⟩⟩
           ·rw [if_neg c18] at H
            have c18b0 : (((rd_T72 l0 t352).f1) == ((rd_T79 l1 x5_2).f1.f0)) = false := beq_eq_false_iff_ne.mpr c18
            have c18b1 : (((rd_T72 l0 t352).f1) != ((rd_T79 l1 x5_2).f1.f0)) = true := bne_iff_ne.mpr c18
            obtain rfl := Option.some.inj H
            have p351 : 0 ≤ (x5_2 : Int) := odA
            have q351 : x5_2 < (l1.length : Int) := odA
            obtain ⟨ad351, e351, hx351_0, hx351_1, hx351_2, hx351_3⟩ := at_T79 HR1.out x5_2 p351 q351
            cases e351
            replace hx351_0 := crA hx351_0
            replace hx351_1 := crA hx351_1
            replace hx351_2 := crA hx351_2
            replace hx351_3 := crA hx351_3
            replace p351 := eq_true p351
            replace q351 := eq_true q351
            go_wp2_with (first | (go_at_call 50; (with_reducible refine (caduceusref04_Find.calls k2 _ _ l0 ((rd_T79 l1 x5_2).f0) t352 _ ?side1 ?side2 A13.out).mono ?_); (case side1 => repeat (first | exact (Kd.C_below HR0.out HB.out) | (with_reducible refine Kd.C_alloc ?_ _) | (with_reducible refine Kd.C_drewN ?_ _) | (with_reducible refine Kd.C_drew ?_))); (case side2 => exact HC0.out); rintro e w20 ⟨rfl, hb⟩; have n0_ := Aside0.mk (below_step (bwA) hb); clear HB; have HB := n0_; clear n0_; (try clear hb); (try clear hb2); (try clear hk); (try clear hi); have p353 : 0 ≤ (t352 : Int) := odA; have q353 : t352 < (l0.length : Int) := odA; obtain ⟨ad353, e353, hx353_0, hx353_1, hx353_2⟩ := at_T72 HR0.out t352 p353 q353; cases e353; replace hx353_0 := crA hx353_0; replace hx353_1 := crA hx353_1; replace hx353_2 := crA hx353_2; replace p353 := eq_true p353; replace q353 := eq_true q353; have p354 : 0 ≤ (x5_2 : Int) := odA; have q354 : x5_2 < (l1.length : Int) := odA; obtain ⟨ad354, e354, hx354_0, hx354_1, hx354_2, hx354_3⟩ := at_T79 HR1.out x5_2 p354 q354; obtain rfl : ad351 = ad354 := (by injection e354); replace hx354_0 := crA hx354_0; replace hx354_1 := crA hx354_1; replace hx354_2 := crA hx354_2; replace hx354_3 := crA hx354_3; replace p354 := eq_true p354; replace q354 := eq_true q354))
            repeat (go_quiet (first | (go_at_call 50; (with_reducible refine (caduceusref04_Find.calls k2 _ _ l0 ((rd_T79 l1 x5_2).f0) t352 _ ?side1 ?side2 A13.out).mono ?_); (case side1 => repeat (first | exact (Kd.C_below HR0.out HB.out) | (with_reducible refine Kd.C_alloc ?_ _) | (with_reducible refine Kd.C_drewN ?_ _) | (with_reducible refine Kd.C_drew ?_))); (case side2 => exact HC0.out); rintro e w20 ⟨rfl, hb⟩; have n0_ := Aside0.mk (below_step (bwA) hb); clear HB; have HB := n0_; clear n0_; (try clear hb); (try clear hb2); (try clear hk); (try clear hi); have p353 : 0 ≤ (t352 : Int) := odA; have q353 : t352 < (l0.length : Int) := odA; obtain ⟨ad353, e353, hx353_0, hx353_1, hx353_2⟩ := at_T72 HR0.out t352 p353 q353; cases e353; replace hx353_0 := crA hx353_0; replace hx353_1 := crA hx353_1; replace hx353_2 := crA hx353_2; replace p353 := eq_true p353; replace q353 := eq_true q353; have p354 : 0 ≤ (x5_2 : Int) := odA; have q354 : x5_2 < (l1.length : Int) := odA; obtain ⟨ad354, e354, hx354_0, hx354_1, hx354_2, hx354_3⟩ := at_T79 HR1.out x5_2 p354 q354; obtain rfl : ad351 = ad354 := (by injection e354); replace hx354_0 := crA hx354_0; replace hx354_1 := crA hx354_1; replace hx354_2 := crA hx354_2; replace hx354_3 := crA hx354_3; replace p354 := eq_true p354; replace q354 := eq_true q354)); try go_wp2_with (first | (go_at_call 50; (with_reducible refine (caduceusref04_Find.calls k2 _ _ l0 ((rd_T79 l1 x5_2).f0) t352 _ ?side1 ?side2 A13.out).mono ?_); (case side1 => repeat (first | exact (Kd.C_below HR0.out HB.out) | (with_reducible refine Kd.C_alloc ?_ _) | (with_reducible refine Kd.C_drewN ?_ _) | (with_reducible refine Kd.C_drew ?_))); (case side2 => exact HC0.out); rintro e w20 ⟨rfl, hb⟩; have n0_ := Aside0.mk (below_step (bwA) hb); clear HB; have HB := n0_; clear n0_; (try clear hb); (try clear hb2); (try clear hk); (try clear hi); have p353 : 0 ≤ (t352 : Int) := odA; have q353 : t352 < (l0.length : Int) := odA; obtain ⟨ad353, e353, hx353_0, hx353_1, hx353_2⟩ := at_T72 HR0.out t352 p353 q353; cases e353; replace hx353_0 := crA hx353_0; replace hx353_1 := crA hx353_1; replace hx353_2 := crA hx353_2; replace p353 := eq_true p353; replace q353 := eq_true q353; have p354 : 0 ≤ (x5_2 : Int) := odA; have q354 : x5_2 < (l1.length : Int) := odA; obtain ⟨ad354, e354, hx354_0, hx354_1, hx354_2, hx354_3⟩ := at_T79 HR1.out x5_2 p354 q354; obtain rfl : ad351 = ad354 := (by injection e354); replace hx354_0 := crA hx354_0; replace hx354_1 := crA hx354_1; replace hx354_2 := crA hx354_2; replace hx354_3 := crA hx354_3; replace p354 := eq_true p354; replace q354 := eq_true q354)))
            go_ret
            exact ⟨endA, bwA⟩
          ·rw [if_neg c17] at H
           exact absurd H (by simp)
         ·rw [if_neg c16] at H
          exact absurd H (by simp)
       ·rw [if_neg c12] at H
        exact absurd H (by simp)
      ·rw [if_neg c11] at H
       have c11b0 : decide (x5_2 < (l1.length : Int)) = false := decide_eq_false c11
       clear c11
       have H' := Aside0.mk H
       clear H
       go_wp2
       repeat (go_quiet (fail); try go_wp2)
       go_loopg [7] k2 (fun kq v7 w' => ∃ (x7_3 : Int), v7 = .int .i64 x7_3 ∧ Aside0 (caduceusref04_Fits.l1 kq l0 l1 x7_3 = some r) ∧ Aside0 (kq ≤ k2) ∧ Aside0 (Below w.heap.size w w'))
       case atStart => exact ⟨(0), (endS), H', ⟨Nat.le_refl _⟩, ⟨bwA⟩⟩
       case round =>
        clear H'
        try clear c1
        try clear c2
        try clear p2
        try clear p3
        try clear q3
        try clear hx3
        try clear c5
        try clear p6
        try clear c10
        try clear c11
        try clear c11b0
        try clear c12
        try clear c12b0
        try clear c14
        try clear c14b0
        try clear c16
        try clear c16b0
        try clear c17
        try clear c17b0
        try clear c18
        try clear c18b0
        try clear c18b1
        try clear hx351_0
        try clear hx351_1
        try clear hx351_2
        try clear hx351_3
        try clear hx353_0
        try clear hx353_1
        try clear hx353_2
        try clear hx354_0
        try clear hx354_1
        try clear hx354_2
        try clear hx354_3
        try clear p2
        try clear p351
        try clear p353
        try clear p354
        try clear q351
        try clear q353
        try clear q354
        obtain ⟨x7_3, rfl, HA, HK3, HB⟩ := hrel
        cases gk with
        | zero => exact absurd HA.out (by simp [caduceusref04_Fits.l1])
        | succ k3 =>
         have H := HA.out
         clear HA
         simp only [caduceusref04_Fits.l1] at H
         by_cases c21 : x7_3 < (l0.length : Int)
         ·rw [if_pos c21] at H
          have c21b0 : decide (x7_3 < (l0.length : Int)) = true := decide_eq_true c21
          clear c21
          by_cases c22 : 0 ≤ x7_3
          ·rw [if_pos c22] at H
           have c22b0 : decide (0 ≤ x7_3) = true := decide_eq_true c22
           clear c22
           obtain ⟨bq23, hbq23⟩ : ∃ b_ : Bool, b_ = ((rd_T72 l0 x7_3).f2) := ⟨_, rfl⟩
           replace H : (if bq23 = true then ((caduceusref04_Get.f k3 l1 ((rd_T72 l0 x7_3).f0)).bind fun t357 => (if t357 < 0 then (some 7) else (caduceusref04_Fits.l1 k3 l0 l1 (wrap64 (x7_3 + 1))))) else (caduceusref04_Fits.l1 k3 l0 l1 (wrap64 (x7_3 + 1)))) = some r := by rw [← hbq23] at H; exact H
           have Nbq23 := Aside0.mk hbq23
           clear hbq23
           by_cases c24 : bq23 = true
           ·subst c24
            have H1 : ((caduceusref04_Get.f k3 l1 ((rd_T72 l0 x7_3).f0)).bind fun t357 => (if t357 < 0 then (some 7) else (caduceusref04_Fits.l1 k3 l0 l1 (wrap64 (x7_3 + 1))))) = some r := by rw [if_pos rfl] at H; exact H
            clear H
            have H := H1
            clear H1
            replace H := Option.bind_eq_some_iff.mp H
            obtain ⟨t357, A250, H⟩ := H
            replace H : (if t357 < 0 then (some 7) else (caduceusref04_Fits.l1 k3 l0 l1 (wrap64 (x7_3 + 1)))) = some r := H
            have A25 := Aside0.mk A250
            clear A250
            by_cases c26 : t357 < 0
            ·rw [if_pos c26] at H
             have c26b0 : decide (t357 < 0) = true := decide_eq_true c26
             clear c26
             obtain rfl := Option.some.inj H
             have p355 : 0 ≤ (x7_3 : Int) := odA
             have q355 : x7_3 < (l0.length : Int) := odA
             obtain ⟨ad355, e355, hx355_0, hx355_1, hx355_2⟩ := at_T72 HR0.out x7_3 p355 q355
             (try rw [← Nbq23.out] at hx355_2)
             cases e355
             replace hx355_0 := crA hx355_0
             replace hx355_1 := crA hx355_1
             replace hx355_2 := crA hx355_2
             replace p355 := eq_true p355
             replace q355 := eq_true q355
             have p356 : 0 ≤ (x7_3 : Int) := odA
             have q356 : x7_3 < (l0.length : Int) := odA
             obtain ⟨ad356, e356, hx356_0, hx356_1, hx356_2⟩ := at_T72 HR0.out x7_3 p356 q356
             (try rw [← Nbq23.out] at hx356_2)
             obtain rfl : ad355 = ad356 := (by injection e356)
             replace hx356_0 := crA hx356_0
             replace hx356_1 := crA hx356_1
             replace hx356_2 := crA hx356_2
             replace p356 := eq_true p356
             replace q356 := eq_true q356
             go_wp2_with (first | (go_at_call 18; (with_reducible refine (caduceusref04_Get.calls k3 _ _ l1 ((rd_T72 l0 x7_3).f0) t357 _ ?side1 ?side2 A25.out).mono ?_); (case side1 => repeat (first | exact (Kd.C_below HR1.out HB.out) | (with_reducible refine Kd.C_alloc ?_ _) | (with_reducible refine Kd.C_drewN ?_ _) | (with_reducible refine Kd.C_drew ?_))); (case side2 => exact HC1.out); rintro e w27 ⟨rfl, hb⟩; have n0_ := Aside0.mk (below_step (bwA) hb); clear HB; have HB := n0_; clear n0_; (try clear hb); (try clear hb2); (try clear hk); (try clear hi)))
             repeat (go_quiet (first | (go_at_call 18; (with_reducible refine (caduceusref04_Get.calls k3 _ _ l1 ((rd_T72 l0 x7_3).f0) t357 _ ?side1 ?side2 A25.out).mono ?_); (case side1 => repeat (first | exact (Kd.C_below HR1.out HB.out) | (with_reducible refine Kd.C_alloc ?_ _) | (with_reducible refine Kd.C_drewN ?_ _) | (with_reducible refine Kd.C_drew ?_))); (case side2 => exact HC1.out); rintro e w27 ⟨rfl, hb⟩; have n0_ := Aside0.mk (below_step (bwA) hb); clear HB; have HB := n0_; clear n0_; (try clear hb); (try clear hb2); (try clear hk); (try clear hi))); try go_wp2_with (first | (go_at_call 18; (with_reducible refine (caduceusref04_Get.calls k3 _ _ l1 ((rd_T72 l0 x7_3).f0) t357 _ ?side1 ?side2 A25.out).mono ?_); (case side1 => repeat (first | exact (Kd.C_below HR1.out HB.out) | (with_reducible refine Kd.C_alloc ?_ _) | (with_reducible refine Kd.C_drewN ?_ _) | (with_reducible refine Kd.C_drew ?_))); (case side2 => exact HC1.out); rintro e w27 ⟨rfl, hb⟩; have n0_ := Aside0.mk (below_step (bwA) hb); clear HB; have HB := n0_; clear n0_; (try clear hb); (try clear hb2); (try clear hk); (try clear hi))))
             go_ret
             exact ⟨endA, bwA⟩
            ·rw [if_neg c26] at H
             have c26b0 : decide (t357 < 0) = false := decide_eq_false c26
             clear c26
             have H' := Aside0.mk H
             clear H
             have p355 : 0 ≤ (x7_3 : Int) := odA
             have q355 : x7_3 < (l0.length : Int) := odA
             obtain ⟨ad355, e355, hx355_0, hx355_1, hx355_2⟩ := at_T72 HR0.out x7_3 p355 q355
             (try rw [← Nbq23.out] at hx355_2)
             cases e355
             replace hx355_0 := crA hx355_0
             replace hx355_1 := crA hx355_1
             replace hx355_2 := crA hx355_2
             replace p355 := eq_true p355
             replace q355 := eq_true q355
             have p356 : 0 ≤ (x7_3 : Int) := odA
             have q356 : x7_3 < (l0.length : Int) := odA
             obtain ⟨ad356, e356, hx356_0, hx356_1, hx356_2⟩ := at_T72 HR0.out x7_3 p356 q356
             (try rw [← Nbq23.out] at hx356_2)
             obtain rfl : ad355 = ad356 := (by injection e356)
             replace hx356_0 := crA hx356_0
             replace hx356_1 := crA hx356_1
             replace hx356_2 := crA hx356_2
             replace p356 := eq_true p356
             replace q356 := eq_true q356
             go_wp2_with (first | (go_at_call 18; (with_reducible refine (caduceusref04_Get.calls k3 _ _ l1 ((rd_T72 l0 x7_3).f0) t357 _ ?side1 ?side2 A25.out).mono ?_); (case side1 => repeat (first | exact (Kd.C_below HR1.out HB.out) | (with_reducible refine Kd.C_alloc ?_ _) | (with_reducible refine Kd.C_drewN ?_ _) | (with_reducible refine Kd.C_drew ?_))); (case side2 => exact HC1.out); rintro e w28 ⟨rfl, hb⟩; have n0_ := Aside0.mk (below_step (bwA) hb); clear HB; have HB := n0_; clear n0_; (try clear hb); (try clear hb2); (try clear hk); (try clear hi)))
             repeat (go_quiet (first | (go_at_call 18; (with_reducible refine (caduceusref04_Get.calls k3 _ _ l1 ((rd_T72 l0 x7_3).f0) t357 _ ?side1 ?side2 A25.out).mono ?_); (case side1 => repeat (first | exact (Kd.C_below HR1.out HB.out) | (with_reducible refine Kd.C_alloc ?_ _) | (with_reducible refine Kd.C_drewN ?_ _) | (with_reducible refine Kd.C_drew ?_))); (case side2 => exact HC1.out); rintro e w28 ⟨rfl, hb⟩; have n0_ := Aside0.mk (below_step (bwA) hb); clear HB; have HB := n0_; clear n0_; (try clear hb); (try clear hb2); (try clear hk); (try clear hi))); try go_wp2_with (first | (go_at_call 18; (with_reducible refine (caduceusref04_Get.calls k3 _ _ l1 ((rd_T72 l0 x7_3).f0) t357 _ ?side1 ?side2 A25.out).mono ?_); (case side1 => repeat (first | exact (Kd.C_below HR1.out HB.out) | (with_reducible refine Kd.C_alloc ?_ _) | (with_reducible refine Kd.C_drewN ?_ _) | (with_reducible refine Kd.C_drew ?_))); (case side2 => exact HC1.out); rintro e w28 ⟨rfl, hb⟩; have n0_ := Aside0.mk (below_step (bwA) hb); clear HB; have HB := n0_; clear n0_; (try clear hb); (try clear hb2); (try clear hk); (try clear hi))))
             go_roundg k3
             case measure => have := HJ2.out; have := HK2.out; have := HK3.out; omega
             case rel => exact ⟨(wrap64 (x7_3 + 1)), (endS), H', ⟨by have := HJ2.out; have := HK2.out; have := HK3.out; omega⟩, ⟨bwA⟩⟩
           ·replace c24 := Bool.eq_false_iff.mpr c24
            subst c24
            have H1 : (caduceusref04_Fits.l1 k3 l0 l1 (wrap64 (x7_3 + 1))) = some r := by rw [if_neg (show ¬ (false = true) by decide)] at H; exact H
            clear H
            have H := H1
            clear H1
            have H' := Aside0.mk H
            clear H
            have p355 : 0 ≤ (x7_3 : Int) := odA
            have q355 : x7_3 < (l0.length : Int) := odA
            obtain ⟨ad355, e355, hx355_0, hx355_1, hx355_2⟩ := at_T72 HR0.out x7_3 p355 q355
            (try rw [← Nbq23.out] at hx355_2)
            cases e355
            replace hx355_0 := crA hx355_0
            replace hx355_1 := crA hx355_1
            replace hx355_2 := crA hx355_2
            replace p355 := eq_true p355
            replace q355 := eq_true q355
            go_wp2
            repeat (go_quiet (fail); try go_wp2)
            go_roundg k3
            case measure => have := HJ2.out; have := HK2.out; have := HK3.out; omega
            case rel => exact ⟨(wrap64 (x7_3 + 1)), (endS), H', ⟨by have := HJ2.out; have := HK2.out; have := HK3.out; omega⟩, ⟨bwA⟩⟩
          ·rw [if_neg c22] at H
           exact absurd H (by simp)
         ·rw [if_neg c21] at H
          have c21b0 : decide (x7_3 < (l0.length : Int)) = false := decide_eq_false c21
          clear c21
          obtain rfl := Option.some.inj H
          go_wp2
          repeat (go_quiet (fail); try go_wp2)
          go_ret
          exact ⟨endA, bwA⟩

end Go.Proofs.YtnbbajiabbmdmaaGreatDoor.A
