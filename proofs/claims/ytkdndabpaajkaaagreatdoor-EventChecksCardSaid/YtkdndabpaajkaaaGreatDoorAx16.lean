import Derived.Test.YtkdndabpaajkaaaGreatDoorAx0
import Derived.Test.YtkdndabpaajkaaaGreatDoorAx2
import Derived.Test.YtkdndabpaajkaaaGreatDoorAx5
import Derived.Test.YtkdndabpaajkaaaGreatDoorAx6
import Derived.Test.YtkdndabpaajkaaaGreatDoorAx13
import Derived.Test.YtkdndabpaajkaaaGreatDoorAx14
import Derived.Test.YtkdndabpaajkaaaGreatDoorAx15
namespace Go.Proofs.YtkdndabpaajkaaaGreatDoor.A
open Go.RowKit Go.Proofs.YtkdndabpaajkaaaGreatDoorW.PrintWords Go.Proofs.YtkdndabpaajkaaaGreatDoorW.PrintLast Go.Proofs.YtkdndabpaajkaaaGreatDoorW.PrintMore
attribute [local go_sem] max2_int min2_int max_two min_two max_three min_three max_four min_four   -- for this text's walks alone
set_option linter.unusedVariables false
set_option linter.unusedSimpArgs false
attribute [local go_sem high] eqA36 eqA140
set_option maxHeartbeats 8000000
set_option maxRecDepth 100000
def R06_Check.f (k : Nat) (a0_0 : Int) (a0_1 : Int) (a0_2 : Int) (a0_3 : ByteArray) (l0_4 : List (S140)) : Option (Bool) := (R05_IsID.f a0_0 a0_1 a0_2).bind fun t402 => (if t402 = true then ((R02_Check.f k a0_3).bind fun t403 => (if t403 = 0 then ((R04_Attrs.f k l0_4).bind fun t404 => (some t404)) else (some false))) else (some false))
theorem R06_Check.mono : ∀ a0 a1 a2 a3 a4 k, LeO (R06_Check.f k a0 a1 a2 a3 a4) (R06_Check.f (k + 1) a0 a1 a2 a3 a4) := by
 intro a0 a1 a2 a3 a4 k; unfold R06_Check.f
 repeat' (with_reducible first | exact R02_Check.mono _ _ | exact R04_Attrs.mono _ _ | exact LeO.refl _ | exact LeO.none _ | refine LeO.ite ?_ ?_ | refine LeO.bind ?_ (fun _ => ?_))
theorem R06_Check.calls (k : Nat) (a0_0 : Int) (a0_1 : Int) (a0_2 : Int) (a0_3 : ByteArray) (A0_4 : Option Addr) (c0_4 : Nat) (l0_4 : List (S140)) (r : Bool) (w : World) (hr0_4 : Kd.C k140 w A0_4 l0_4.length l0_4) (hc0_4 : l0_4.length ≤ c0_4) (h : R06_Check.f k a0_0 a0_1 a0_2 a0_3 l0_4 = some r) :
  Calls Tryz.prog 47 #[.agg #[.int .i64 a0_0, .int .i64 a0_1, .int .i64 a0_2, .string a0_3, .slice A0_4 l0_4.length c0_4]] w fun e w' => e = .returned (.bool r) ∧ Below w.heap.size w w' := by
 have hu86 := Tryz.underlying86; have hu36 := Tryz.underlying36; have HR0_4 := aM hr0_4; have HC0_4 := aM hc0_4; clear hr0_4 hc0_4; have HB := aM (Below.refl w.heap.size w); unfold R06_Check.f at h; have H := h; clear h; replace H := bnA H; obtain ⟨t402, A2, H⟩ := H; revert H; refine itR ?L5p ?L5n
 case' L5p =>
  intro c3 H; subst c3; replace H := bnA H; obtain ⟨t403, A4, H⟩ := H; revert H; refine itQ ?L6p ?L6n
  case' L6p =>
   rintro ⟨c5b0, c5b1⟩ H; replace H := bnA H; obtain ⟨t404, A6, H⟩ := H; obtain rfl := sI H; have M1 := trivial; have M2 := trivial
  case' L6n =>
   rintro ⟨c5b0, c5b1⟩ c5 H; obtain rfl := sI H; have M1 := trivial; have M3 := trivial
 case' L5n =>
  intro c3 H; replace c3 := Bool.eq_false_iff.mpr c3; subst c3; obtain rfl := sI H; have M4 := trivial
 all_goals
  case _ =>
   go_enter Tryz.func47, Tryz.ntmps47; go_wp2_with (first | ((with_reducible refine gate_dst (N := 1) rfl ?_); refine boxB 1 #[.int .i64 a0_0, .int .i64 a0_1, .int .i64 a0_2, .string a0_3, .slice A0_4 l0_4.length c0_4] 86 HB ?_; clear HB; intro gb401 w101 BK401 GW401 GE401 HB; obtain ⟨hcz102_0, hcz102_1, hcz102_2, hcz102_3, hcz102_4⟩ := cel5 BK401.out; obtain ⟨hfz102_0, hfz102_1, hfz102_2, hfz102_3, hfz102_4⟩ := frz5 BK401.out) | ((with_reducible refine gate_callee (f := 80) rfl ?_); refine goesA (some 5) Tryz.func80 #[.agg #[.int .i64 a0_0, .int .i64 a0_1, .int .i64 a0_2]] ?_; (with_reducible refine (R05_IsID.calls _ _ _ _ _ A2.out).mono ?_); rintro e w103 ⟨rfl, hb⟩; refine ⟨_, rfl, ?_⟩; replace BK401 := aM (bkB BK401 hb); replace HB := aM (below_step (bwA) hb); (try clear hb); apply stopA; (case other => exact trivial)))
   case _ =>
    first
     | clear M1
       obtain ⟨hcz104_0, hcz104_1, hcz104_2, hcz104_3, hcz104_4⟩ := cel5 BK401.out; obtain ⟨hfz104_0, hfz104_1, hfz104_2, hfz104_3, hfz104_4⟩ := frz5 BK401.out; go_wp2_with (first | (go_at_call 70; (with_reducible refine (R02_Check.calls _ _ _ _ A4.out).mono ?_); rintro e w105 ⟨rfl, hb⟩; replace BK401 := aM (bkB BK401 hb); replace HB := aM (below_step (bwA) hb); (try clear hb); apply stopA; (case other => exact trivial)))
       case _ =>
        first
         | clear M2
           obtain ⟨hcz106_0, hcz106_1, hcz106_2, hcz106_3, hcz106_4⟩ := cel5 BK401.out; obtain ⟨hfz106_0, hfz106_1, hfz106_2, hfz106_3, hfz106_4⟩ := frz5 BK401.out; (try go_wp2_with (first | (go_at_call 112; (with_reducible refine (R04_Attrs.calls _ _ _ _ _ _ ?side1 ?side2 A6.out).mono ?_); (case side1 => repeat (first | exact (Kd.C_below HR0_4.out HB.out) | (with_reducible refine Kd.C_alloc ?_ _) | (with_reducible refine Kd.C_drewN ?_ _) | (with_reducible refine Kd.C_drew ?_))); (case side2 => exact HC0_4.out); rintro e w107 ⟨rfl, hb⟩; replace BK401 := aM (bkB BK401 hb); replace HB := aM (below_step (bwA) hb); (try clear hb)))); go_ret; exact ⟨endA, bwA⟩
         | clear M3
           (try go_wp2_with (fail))
           go_ret; exact ⟨endA, bwA⟩
     | clear M4
       (try go_wp2_with (fail))
       go_ret; exact ⟨endA, bwA⟩
def R04_SameAttrs.l0 : Nat → List (S140) → List (S140) → Int → Option (Bool)
 | 0, _, _, _ => none
 | k + 1, x0, x1, x5 => if x5 < (x0.length : Int) then (if 0 ≤ x5 then (if x5 < (x1.length : Int) then (if (!((((rd_T140 x0 x5).f0).toList) == (((rd_T140 x1 x5).f0).toList)) || ((!(((rd_T140 x0 x5).f1.f0) == ((rd_T140 x1 x5).f1.f0)) || (!(((rd_T140 x0 x5).f1.f1) == ((rd_T140 x1 x5).f1.f1)) || (!((((rd_T140 x0 x5).f1.f2).toList) == (((rd_T140 x1 x5).f1.f2).toList))))))) = true then (some false) else (R04_SameAttrs.l0 k x0 x1 (wrap64 (x5 + 1)))) else (none)) else (none)) else (some true)
def R04_SameAttrs.f (k : Nat) (l0 : List (S140)) (l1 : List (S140)) : Option (Bool) := if (l0.length : Int) = (l1.length : Int) then (R04_SameAttrs.l0 k l0 l1 0) else (some false)
theorem R04_SameAttrs.mono_l : ∀ k, (∀ y0 y1 y2, LeO (R04_SameAttrs.l0 k y0 y1 y2) (R04_SameAttrs.l0 (k + 1) y0 y1 y2))
 | 0 => fun _ _ _ r h => by simp [R04_SameAttrs.l0] at h
 | k + 1 => by
  have ih0 := R04_SameAttrs.mono_l k
  ·intro y0 y1 y2
   unfold R04_SameAttrs.l0
   repeat' (with_reducible first | exact ih0 _ _ _ | exact LeO.refl _ | exact LeO.none _ | refine LeO.ite ?_ ?_ | refine LeO.bind ?_ (fun _ => ?_))
theorem R04_SameAttrs.mono : ∀ a0 a1 k, LeO (R04_SameAttrs.f k a0 a1) (R04_SameAttrs.f (k + 1) a0 a1) := by
 intro a0 a1 k; have ih0 := R04_SameAttrs.mono_l k; unfold R04_SameAttrs.f
 repeat' (with_reducible first | exact ih0 _ _ _ | exact LeO.refl _ | exact LeO.none _ | refine LeO.ite ?_ ?_ | refine LeO.bind ?_ (fun _ => ?_))
theorem R04_SameAttrs.calls (k : Nat) (A0 : Option Addr) (c0 : Nat) (l0 : List (S140)) (A1 : Option Addr) (c1 : Nat) (l1 : List (S140)) (r : Bool) (w : World) (hr0 : Kd.C k140 w A0 l0.length l0) (hc0 : l0.length ≤ c0) (hr1 : Kd.C k140 w A1 l1.length l1) (hc1 : l1.length ≤ c1) (h : R04_SameAttrs.f k l0 l1 = some r) :
  Calls Tryz.prog 61 #[.slice A0 l0.length c0, .slice A1 l1.length c1] w fun e w' => e = .returned (.bool r) ∧ Drawn0 w w' := by
 have hu140 := Tryz.underlying140; have HR0 := aM hr0; have HC0 := aM hc0; clear hr0 hc0; have HR1 := aM hr1; have HC1 := aM hc1; clear hr1 hc1; unfold R04_SameAttrs.f at h; have H := h; clear h; revert H; refine itR ?L7p ?L7n
 case' L7p =>
  intro c3 H; obtain ⟨c3b0, c3b1⟩ := fcE c3; have c3b2 : (l0.length == l1.length) = true := by first | simpa using c3 | (simp at c3 ⊢; omega)
  clear c3; have H' := aM H; clear H; have M5 := trivial
 case' L7n =>
  intro c3 H; obtain ⟨c3b0, c3b1⟩ := fcN c3; have c3b2 : (l0.length == l1.length) = false := by first | simpa using c3 | (simp at c3 ⊢; omega)
  obtain rfl := sI H; have M6 := trivial
 all_goals
  case _ =>
   go_enter Tryz.func61, Tryz.ntmps61; go_wp2; repeat (go_quiet (fail); try go_wp2)
   first
    | clear M5
      go_loopg [5] k (fun kq v5 w' => ∃ (x5_1 : Int), v5 = .int .i64 x5_1 ∧ Aside0 (R04_SameAttrs.l0 kq l0 l1 x5_1 = some r) ∧ Aside0 (kq ≤ k) ∧ Drawn0 w w')
      case atStart => exact ⟨(0), (endS), H', ⟨Nat.le_refl _⟩, drA⟩
      case round =>
       clear H'; (try clear c1); (try clear p2); (try clear c3); (try clear c3b0); (try clear c3b1); (try clear c3b2); (try clear c6); (try clear c61); obtain ⟨x5_1, rfl, HA, HK1, ⟨m1, rfl⟩⟩ := hrel
       cases gk with
       | zero => exact absurd HA.out (by simp [R04_SameAttrs.l0])
       | succ k1 =>
        have H := HA.out; clear HA; simp only [R04_SameAttrs.l0] at H; revert H; refine itR ?L3p ?L3n
        case' L3p =>
         intro c101 H; have c101b0 := dT c101; clear c101; replace H := itN H; obtain ⟨c102, H⟩ := H; have c102b0 := dT c102; clear c102; replace H := itN H; obtain ⟨c103, H⟩ := H; have c103b0 := dT c103; clear c103; revert H; refine itR ?L4p ?L4n
         case' L4p =>
          intro c104 H; have c104b0 : (!((((rd_T140 l0 x5_1).f0).toList) == (((rd_T140 l1 x5_1).f0).toList)) || ((!(((rd_T140 l0 x5_1).f1.f0) == ((rd_T140 l1 x5_1).f1.f0)) || (!(((rd_T140 l0 x5_1).f1.f1) == ((rd_T140 l1 x5_1).f1.f1)) || (!((((rd_T140 l0 x5_1).f1.f2).toList) == (((rd_T140 l1 x5_1).f1.f2).toList))))))) = true := c104; clear c104; obtain rfl := sI H; have M1 := trivial
         case' L4n =>
          intro c104 H; have c104b0 : (!((((rd_T140 l0 x5_1).f0).toList) == (((rd_T140 l1 x5_1).f0).toList)) || ((!(((rd_T140 l0 x5_1).f1.f0) == ((rd_T140 l1 x5_1).f1.f0)) || (!(((rd_T140 l0 x5_1).f1.f1) == ((rd_T140 l1 x5_1).f1.f1)) || (!((((rd_T140 l0 x5_1).f1.f2).toList) == (((rd_T140 l1 x5_1).f1.f2).toList))))))) = false := by simpa using c104
          clear c104; have H' := aM H; clear H; have M2 := trivial
        case' L3n =>
         intro c101 H; have c101b0 := dF c101; clear c101; obtain rfl := sI H; go_wp2; (repeat (go_quiet (fail); try go_wp2)); go_ret; exact ⟨endS, drA⟩
        all_goals
         case _ =>
          have p405 : 0 ≤ (x5_1 : Int) := odA; have q405 : x5_1 < (l0.length : Int) := odA; obtain ⟨ad405, e405, hx405_0, hx405_1, hx405_2, hx405_3⟩ := at_T140 HR0.out x5_1 p405 q405
          cases e405
          replace p405 := eq_true p405; replace q405 := eq_true q405; have p406 : 0 ≤ (x5_1 : Int) := odA; have q406 : x5_1 < (l1.length : Int) := odA; obtain ⟨ad406, e406, hx406_0, hx406_1, hx406_2, hx406_3⟩ := at_T140 HR1.out x5_1 p406 q406
          cases e406
          replace p406 := eq_true p406; replace q406 := eq_true q406; go_wp2; repeat (go_quiet (fail); try go_wp2)
          first
           | clear M1
             go_ret; exact ⟨endS, drA⟩
           | clear M2
             go_roundg k1
             case measure => have := HK1.out; omega
             case rel => exact ⟨(wrap64 (x5_1 + 1)), (endS), H', ⟨by have := HK1.out; omega⟩, drA⟩
    | clear M6
      go_ret; exact ⟨endS, drA⟩
def R06_Same.f (k : Nat) (a0_0 : Int) (a0_1 : Int) (a0_2 : Int) (a0_3 : ByteArray) (l0_4 : List (S140)) (a1_0 : Int) (a1_1 : Int) (a1_2 : Int) (a1_3 : ByteArray) (l1_4 : List (S140)) : Option (Bool) := if (a0_0 == a1_0 && (a0_1 == a1_1 && (a0_2 == a1_2))) = true then (if a0_3.toList = a1_3.toList then ((R04_SameAttrs.f k l0_4 l1_4).bind fun t409 => (some t409)) else (some false)) else (some false)
theorem R06_Same.mono : ∀ a0 a1 a2 a3 a4 a5 a6 a7 a8 a9 k, LeO (R06_Same.f k a0 a1 a2 a3 a4 a5 a6 a7 a8 a9) (R06_Same.f (k + 1) a0 a1 a2 a3 a4 a5 a6 a7 a8 a9) := by
 intro a0 a1 a2 a3 a4 a5 a6 a7 a8 a9 k; unfold R06_Same.f
 repeat' (with_reducible first | exact R04_SameAttrs.mono _ _ _ | exact LeO.refl _ | exact LeO.none _ | refine LeO.ite ?_ ?_ | refine LeO.bind ?_ (fun _ => ?_))
theorem R06_Same.calls (k : Nat) (a0_0 : Int) (a0_1 : Int) (a0_2 : Int) (a0_3 : ByteArray) (A0_4 : Option Addr) (c0_4 : Nat) (l0_4 : List (S140)) (a1_0 : Int) (a1_1 : Int) (a1_2 : Int) (a1_3 : ByteArray) (A1_4 : Option Addr) (c1_4 : Nat) (l1_4 : List (S140)) (r : Bool) (w : World) (hr0_4 : Kd.C k140 w A0_4 l0_4.length l0_4) (hc0_4 : l0_4.length ≤ c0_4) (hr1_4 : Kd.C k140 w A1_4 l1_4.length l1_4) (hc1_4 : l1_4.length ≤ c1_4) (h : R06_Same.f k a0_0 a0_1 a0_2 a0_3 l0_4 a1_0 a1_1 a1_2 a1_3 l1_4 = some r) :
  Calls Tryz.prog 49 #[.agg #[.int .i64 a0_0, .int .i64 a0_1, .int .i64 a0_2, .string a0_3, .slice A0_4 l0_4.length c0_4], .agg #[.int .i64 a1_0, .int .i64 a1_1, .int .i64 a1_2, .string a1_3, .slice A1_4 l1_4.length c1_4]] w fun e w' => e = .returned (.bool r) ∧ Below w.heap.size w w' := by
 have hu86 := Tryz.underlying86; have hu36 := Tryz.underlying36; have HR0_4 := aM hr0_4; have HC0_4 := aM hc0_4; clear hr0_4 hc0_4; have HR1_4 := aM hr1_4; have HC1_4 := aM hc1_4; clear hr1_4 hc1_4; have HB := aM (Below.refl w.heap.size w); unfold R06_Same.f at h; have H := h; clear h; revert H; refine itR ?L3p ?L3n
 case' L3p =>
  intro c3 H; have c3b0 : (a0_0 == a1_0 && (a0_1 == a1_1 && (a0_2 == a1_2))) = true := c3
  (try (have c3b1 : decide (a0_0 = a1_0 && (a0_1 == a1_1 && (a0_2 == a1_2))) = true := by simpa using c3))
  (try (have c3b2 : (a0_0 == a1_0 && (a0_1 == a1_1 && (a0_2 == a1_2))) = true := by simpa using c3))
  clear c3; revert H; refine itQ ?L4p ?L4n
  case' L4p =>
   rintro ⟨c4b0, c4b1⟩ H; replace H := bnA H; obtain ⟨t409, A5, H⟩ := H; obtain rfl := sI H; have M1 := trivial
  case' L4n =>
   rintro ⟨c4b0, c4b1⟩ c4 H; obtain rfl := sI H; have M2 := trivial
 case' L3n =>
  intro c3 H; have c3b0 : (a0_0 == a1_0 && (a0_1 == a1_1 && (a0_2 == a1_2))) = false := by simpa using c3
  (try (have c3b1 : decide (a0_0 = a1_0 && (a0_1 == a1_1 && (a0_2 == a1_2))) = false := by simpa using c3))
  (try (have c3b2 : (a0_0 == a1_0 && (a0_1 == a1_1 && (a0_2 == a1_2))) = false := by simpa using c3))
  (try (have c3b3 : ¬ (a0_0 = a1_0 && (a0_1 == a1_1 && (a0_2 == a1_2))) := by simpa using c3))
  clear c3; obtain rfl := sI H; have M2 := trivial
 all_goals
  case _ =>
   go_enter Tryz.func49, Tryz.ntmps49; go_wp2_with (first | ((with_reducible refine gate_dst (N := 2) rfl ?_); refine boxB 2 #[.int .i64 a0_0, .int .i64 a0_1, .int .i64 a0_2, .string a0_3, .slice A0_4 l0_4.length c0_4] 86 HB ?_; clear HB; intro gb407 w101 BK407 GW407 GE407 HB) | ((with_reducible refine gate_dst (N := 3) rfl ?_); refine boxA 3 #[.int .i64 a1_0, .int .i64 a1_1, .int .i64 a1_2, .string a1_3, .slice A1_4 l1_4.length c1_4] 86 ?_; intro gb408 hg w102 hbox hb; have BK408 := aM (hbox); have GW408 := aM (hgW hg : w.heap.size ≤ gb408); have GE408 := aM (hgW hg : w.heap.size ≤ gb408); have NB407_408 := aM (hgL hg BK407 : gb407 ≠ gb408); have NB408_407 := aM (hgG hg BK407 : gb408 ≠ gb407); replace BK407 := aM (bkB BK407 hb); replace HB := aM (below_step (bwA) hb); clear hb hbox hg; have hnb103 := NB407_408.out; have hnc103 := NB408_407.out; obtain ⟨hcz104_0, hcz104_1, hcz104_2, hcz104_3, hcz104_4⟩ := cel5 BK407.out; obtain ⟨hfz104_0, hfz104_1, hfz104_2, hfz104_3, hfz104_4⟩ := frz5 BK407.out; obtain ⟨hcz105_0, hcz105_1, hcz105_2, hcz105_3, hcz105_4⟩ := cel5 BK408.out; obtain ⟨hfz105_0, hfz105_1, hfz105_2, hfz105_3, hfz105_4⟩ := frz5 BK408.out; apply stopA; (case other => exact trivial)))
   case _ =>
    first
     | clear M1
       (try go_wp2_with (first | (go_at_call 61; (with_reducible refine (R04_SameAttrs.calls _ _ _ _ _ _ _ _ _ ?side1 ?side2 ?side3 ?side4 A5.out).mono ?_); (case side1 => repeat (first | exact (Kd.C_below HR0_4.out HB.out) | (with_reducible refine Kd.C_alloc ?_ _) | (with_reducible refine Kd.C_drewN ?_ _) | (with_reducible refine Kd.C_drew ?_))); (case side2 => exact HC0_4.out); (case side3 => repeat (first | exact (Kd.C_below HR1_4.out HB.out) | (with_reducible refine Kd.C_alloc ?_ _) | (with_reducible refine Kd.C_drewN ?_ _) | (with_reducible refine Kd.C_drew ?_))); (case side4 => exact HC1_4.out); rintro e w' ⟨rfl, ⟨nd, rfl⟩⟩))); go_ret; exact ⟨endA, bwA⟩
     | clear M2
       (try go_wp2_with (fail))
       go_ret; exact ⟨endA, bwA⟩
def name_Same.f (a0 : ByteArray) (a1 : ByteArray) : Option (Bool) := (name_Fold.f a0).bind fun t410 => ((name_Fold.f a1).bind fun t411 => (some (t410.toList == t411.toList)))
theorem name_Same.calls (a0 : ByteArray) (a1 : ByteArray) (r : Bool) (w : World) (hT : Tabs w) (h : name_Same.f a0 a1 = some r) :
  Calls Tryz.prog 87 #[.string a0, .string a1] w fun e w' => e = .returned (.bool r) ∧ Below w.heap.size w w' := by
 have HB := aM (Below.refl w.heap.size w); unfold name_Same.f at h; have H := h; clear h; have HT := aM hT; clear hT; replace H := Option.bind_eq_some_iff.mp H; obtain ⟨t410, A30, H⟩ := H; replace H : ((name_Fold.f a1).bind fun t411 => (some (t410.toList == t411.toList))) = some r := H; have A3 := aM A30; clear A30; replace H := Option.bind_eq_some_iff.mp H; obtain ⟨t411, A40, H⟩ := H; replace H : (some (t410.toList == t411.toList)) = some r := H; have A4 := aM A40; clear A40; obtain rfl := sI H; go_enter Tryz.func87, Tryz.ntmps87; go_wp2_with (first | ((with_reducible refine gate_callee (f := 155) rfl ?_); refine goesA (some 6) Tryz.func155 #[.string a0] ?_; (with_reducible refine (name_Fold.calls a0 t410 _ ?side1 A3.out).mono ?_); (case side1 => exact Tabs.below HT.out (bwA)); rintro e w101 ⟨rfl, hb⟩; refine ⟨_, rfl, ?_⟩; have n0_ := aM (below_step (bwA) hb); clear HB; have HB := n0_; clear n0_; (try clear hb); (try clear hb2); (try clear hk); (try clear hi)) | ((with_reducible refine gate_callee (f := 155) rfl ?_); refine goesA (some 8) Tryz.func155 #[.string a1] ?_; (with_reducible refine (name_Fold.calls a1 t411 _ ?side1 A4.out).mono ?_); (case side1 => exact Tabs.below HT.out (bwA)); rintro e w102 ⟨rfl, hb⟩; refine ⟨_, rfl, ?_⟩; have n0_ := aM (below_step (bwA) hb); clear HB; have HB := n0_; clear n0_; (try clear hb); (try clear hb2); (try clear hk); (try clear hi))); go_ret; exact ⟨endA, bwA⟩
def allK {α β : Type} (p : α → β → Option Bool) : List α → List β → Option Bool
 | x :: xs, y :: ys => (p x y).bind fun b => if b = true then allK p xs ys else some false
 | _, _ => some true
def aggA (x : S76) : Value := .agg #[.string x.f0, .int .i64 x.f1.f0, .int .i64 x.f1.f1, .string x.f1.f2]
theorem eqfAttr (p : S76 → S76 → Option Bool) (g : Nat) (eg : ∀ args w, (callFunc g args).run Tryz.prog w = .ok (.enter g args) w) (A0 : Option Addr) (c0 : Nat) (l0 : List S76) (A1 : Option Addr) (c1 : Nat) (l1 : List S76) (r : Bool) (w : World)
  (hp : ∀ (W : World) (x y : S76) (b : Bool), p x y = some b → Below w.heap.size w W → Calls Tryz.prog g #[aggA x, aggA y] W fun e w' => e = .returned (.bool b) ∧ Below w.heap.size w w')
  (hC0 : Kd.C k76 w A0 l0.length l0) (hC1 : Kd.C k76 w A1 l1.length l1) (hr : (if l0.length = l1.length then allK p l0 l1 else some false) = some r) :
  Calls Tryz.prog 114 #[.slice A0 l0.length c0, .slice A1 l1.length c1, .func (.func g) #[] #[]] w fun e w' => e = .returned (.bool r) ∧ Below w.heap.size w w' := by
 have huA := Tryz.underlying76; have huV := Tryz.underlying74
 by_cases hl : l0.length = l1.length
 case neg =>
  rw [if_neg hl] at hr; obtain rfl := sI hr; have b1 : ((l0.length : Int) == (l1.length : Int)) = false := by rw [beq_eq_false_iff_ne]; omega
  have b2 : ((l0.length : Int) != (l1.length : Int)) = true := by rw [bne, b1]; rfl
  have b3 : decide ((l0.length : Int) = (l1.length : Int)) = false := dF (by omega); have b4 : decide (l0.length = l1.length) = false := dF hl; clear hp hC0 hC1 hr; go_enter Tryz.func114, Tryz.ntmps114; go_wp2; go_ret; exact ⟨rfl, Below.refl _ _⟩
 rw [if_pos hl] at hr; have HX0 := aM (fun (i : Int) (h0 : 0 ≤ i) (h1 : i < (l0.length : Int)) (W : World) (hW : Below w.heap.size w W) => at_T76 (Kd.C_below hC0 hW) i h0 h1); have HX1 := aM (fun (i : Int) (h0 : 0 ≤ i) (h1 : i < (l1.length : Int)) (W : World) (hW : Below w.heap.size w W) => at_T76 (Kd.C_below hC1 hW) i h0 h1); have HP := aM hp; have HR := aM hr; have hll : l0.length ≤ 9223372036854775807 := hC0.2.1; clear hp hC0 hC1 hr; obtain ⟨n, hn⟩ : ∃ n, n = l0.length := ⟨_, rfl⟩; rw [← hl, ← hn]; rw [← hn] at hll; have HN := aM (And.intro hn hl); clear hn hl; go_enter Tryz.func114, Tryz.ntmps114; go_wp2
 go_loopg [17] n (fun gg v17 wr => ∃ kk : Nat, kk ≤ n ∧ n - kk ≤ gg ∧ v17 = .int .i64 kk ∧ Aside (Below w.heap.size w wr) ∧ Aside (allK p (l0.drop kk) (l1.drop kk) = some r))
 case atStart => exact ⟨0, Nat.zero_le _, by omega, rfl, Below.refl _ w, HR.out⟩
 case round =>
  obtain ⟨kk, hkk, hg, rfl, BW, AK⟩ := hrel; have hN := HN.out
  by_cases hlt : kk < n
  ·have hltz : (kk : Int) < (n : Int) := by omega
   have hpos : (0 : Int) ≤ (kk : Int) := by omega
   have h0 : kk < l0.length := by omega
   have h1 : kk < l1.length := by omega
   have hA := AK.out; rw [List.drop_eq_getElem_cons h0, List.drop_eq_getElem_cons h1, allK] at hA; obtain ⟨b, hb, hA2⟩ := Option.bind_eq_some_iff.1 hA; clear hA; have hx := HX0.out kk hpos (by omega) wr BW.out; have hy := fun W hW => HX1.out kk hpos (by omega) W hW
   have hrd : rd_T76 l0 (kk : Int) = l0[kk] := by
    unfold rd_T76; rw [Int.toNat_natCast, List.getD_eq_getElem?_getD, List.getElem?_eq_getElem h0]; rfl
   have hrd2 : rd_T76 l1 (kk : Int) = l1[kk] := by
    unfold rd_T76; rw [Int.toNat_natCast, List.getD_eq_getElem?_getD, List.getElem?_eq_getElem h1]; rfl
   rw [hrd] at hx; rw [hrd2] at hy
   generalize l0[kk] = x at hx hb hrd
   generalize l1[kk] = y at hy hb hrd2
   obtain ⟨ad, rfl, x0, x1, x2, x3⟩ := hx; rw [Int.toNat_natCast] at x0 x1 x2 x3 hy; have hW1 : Below w.heap.size w (wr.alloc (.cells #[.string x.f0, .int .i64 x.f1.f0, .int .i64 x.f1.f1, .string x.f1.f2] 76)) := BW.out.alloc BW.out.size _; have hW2 : Below w.heap.size w ((wr.alloc (.cells #[.string x.f0, .int .i64 x.f1.f0, .int .i64 x.f1.f1, .string x.f1.f2] 76)).alloc (.cells #[.string y.f0, .int .i64 y.f1.f0, .int .i64 y.f1.f1, .string y.f1.f2] 76)) := hW1.alloc hW1.size _; obtain ⟨ad1, rfl, y0, y1, y2, y3⟩ := hy _ hW1; have hcall := HP.out _ x y b hb hW2; unfold aggA at hcall; have HAA := aM hA2; have HW2 := aM hW2; clear hrd hrd2 hA2 hb AK BW hy hN h0 h1 hW1 hW2
   cases b with
   | true =>
    have HAA2 := aM (HAA.out.symm.trans (if_pos rfl)).symm; go_wp2_with (go_at_fn g; refine hcall.mono ?_; rintro e w' ⟨rfl, hb'⟩)
    go_roundg (n - (kk + 1))
    case measure => omega
    case rel => exact ⟨kk + 1, by omega, by omega, by go_num, hb', HAA2.out⟩
   | false =>
    obtain rfl := sI (HAA.out.symm.trans (if_neg (by decide))); go_wp2_with (go_at_fn g; refine hcall.mono ?_; rintro e w' ⟨rfl, hb'⟩); go_ret; exact ⟨rfl, hb'⟩
  ·have hltz : ¬ (kk : Int) < (n : Int) := by omega
   have hA := AK.out; rw [List.drop_of_length_le (by omega), allK.eq_2 _ _ _ (by intro x xs y ys h; cases h)] at hA; obtain rfl := sI hA; have hBW := BW.out; clear hA AK BW hN; go_wp2; go_ret; exact ⟨rfl, hBW⟩
theorem box2a {w : World} {cs ds : Array Value} {T U : TypeId} {j : Nat} {v : Value} (h : cs[j]? = some v) : ((w.alloc (.cells cs T)).alloc (.cells ds U)).cell? ⟨w.heap.size, j, none⟩ = some v := Lib.cell?_alloc_some _ ((Lib.cell_of_heap (heap_alloc_new w _) j).trans h)
theorem box2b {w : World} {cs ds : Array Value} {T U : TypeId} {j : Nat} {v : Value} (h : ds[j]? = some v) : ((w.alloc (.cells cs T)).alloc (.cells ds U)).cell? ⟨w.heap.size + 1, j, none⟩ = some v := by
 have h1 := (Lib.cell_of_heap (heap_alloc_new (w.alloc (.cells cs T)) (.cells ds U)) j).trans h; have e : (w.alloc (.cells cs T)).heap.size = w.heap.size + 1 := by simp
 rwa [e] at h1
theorem box2s {w : World} {o p : Obj} : ((w.alloc o).alloc p).heap.size = w.heap.size + 2 := by simp
theorem eqValA (d : Nat) (w : World) (x0 y0 : Int) (x1 y1 : Int) (x2 y2 : ByteArray) :
  (Op.equalIn (d + 2) 74 (.agg #[.int .i64 x0, .int .i64 x1, .string x2]) (.agg #[.int .i64 y0, .int .i64 y1, .string y2])).run Tryz.prog w = .ok (x0 == y0 && (x1 == y1 && (x2.toList == y2.toList))) w := by
 refine eqA_of Tryz.underlying74 (by kernel_rfl) ?_; refine eqf_cons (by rfl) (by go_simp; rfl) (by go_simp; rfl) (by go_simp) ?_; refine eqf_cons (by rfl) (by go_simp; rfl) (by go_simp; rfl) (by go_simp) ?_; exact eqf_last (by rfl) (by go_simp; rfl) (by go_simp; rfl) (by go_simp)
attribute [local go_sem high] eqValA
def event_Alike.one (x y : S76) : Option Bool := (name_Same.f x.f0 y.f0).bind fun u => some (if u = true then (x.f1.f0 == y.f1.f0 && (x.f1.f1 == y.f1.f1 && (x.f1.f2.toList == y.f1.f2.toList))) else false)
theorem event_Alike1.calls (x y : S76) (b : Bool) (w : World) (hT : Tabs w) (h : event_Alike.one x y = some b) :
  Calls Tryz.prog 115 #[aggA x, aggA y] w fun e w' => e = .returned (.bool b) ∧ Below w.heap.size w w' := by
 unfold event_Alike.one at h; obtain ⟨u, hu, h⟩ := Option.bind_eq_some_iff.1 h; have h := sI h; have huA := Tryz.underlying76; have huV := Tryz.underlying74; have hb2 : Below w.heap.size w ((w.alloc (.cells #[.string x.f0, .int .i64 x.f1.f0, .int .i64 x.f1.f1, .string x.f1.f2] 76)).alloc (.cells #[.string y.f0, .int .i64 y.f1.f0, .int .i64 y.f1.f1, .string y.f1.f2] 76)) := ((Below.refl _ w).alloc (Nat.le_refl _) _).alloc (by simp) _; have cS := name_Same.calls x.f0 y.f0 u _ (hT.below hb2) hu; have HB2 := aM hb2; unfold aggA; clear hT hu hb2
 cases u with
 | false =>
  rw [if_neg (by decide)] at h; subst h; go_enter Tryz.func115, Tryz.ntmps115; go_wp2_with (go_at_call 87; refine cS.mono ?_; rintro e w' ⟨rfl, hb'⟩); go_ret; exact ⟨rfl, HB2.out.trans (hb'.mono HB2.out.size)⟩
 | true =>
  rw [if_pos rfl] at h; subst h; go_enter Tryz.func115, Tryz.ntmps115; go_wp2_with (go_at_call 87; refine cS.mono ?_; rintro e w' ⟨rfl, hb'⟩; have x1 := (hb'.cell (p := ⟨w.heap.size, 1, none⟩) (by rw [box2s]; show w.heap.size < _; omega)).trans (box2a (j := 1) rfl); have x2 := (hb'.cell (p := ⟨w.heap.size, 2, none⟩) (by rw [box2s]; show w.heap.size < _; omega)).trans (box2a (j := 2) rfl); have x3 := (hb'.cell (p := ⟨w.heap.size, 3, none⟩) (by rw [box2s]; show w.heap.size < _; omega)).trans (box2a (j := 3) rfl); have y1 := (hb'.cell (p := ⟨w.heap.size + 1, 1, none⟩) (by rw [box2s]; show w.heap.size + 1 < _; omega)).trans (box2b (j := 1) rfl); have y2 := (hb'.cell (p := ⟨w.heap.size + 1, 2, none⟩) (by rw [box2s]; show w.heap.size + 1 < _; omega)).trans (box2b (j := 2) rfl); have y3 := (hb'.cell (p := ⟨w.heap.size + 1, 3, none⟩) (by rw [box2s]; show w.heap.size + 1 < _; omega)).trans (box2b (j := 3) rfl)); go_ret; exact ⟨rfl, HB2.out.trans (hb'.mono HB2.out.size)⟩
def event_Alike.f (a0_0 : Int) (a0_1 : Int) (a0_2 : Int) (a0_3 : ByteArray) (l0_4 : List (S76)) (a1_0 : Int) (a1_1 : Int) (a1_2 : Int) (a1_3 : ByteArray) (l1_4 : List (S76)) : Option (Bool) := (name_Same.f a0_3 a1_3).bind fun t => if t = true then (if l0_4.length = l1_4.length then allK event_Alike.one l0_4 l1_4 else some false) else some false
theorem event_Alike.calls (a0_0 : Int) (a0_1 : Int) (a0_2 : Int) (a0_3 : ByteArray) (A0_4 : Option Addr) (c0_4 : Nat) (l0_4 : List (S76)) (a1_0 : Int) (a1_1 : Int) (a1_2 : Int) (a1_3 : ByteArray) (A1_4 : Option Addr) (c1_4 : Nat) (l1_4 : List (S76)) (r : Bool) (w : World) (hr0_4 : Kd.C k76 w A0_4 l0_4.length l0_4) (hc0_4 : l0_4.length ≤ c0_4) (hr1_4 : Kd.C k76 w A1_4 l1_4.length l1_4) (hc1_4 : l1_4.length ≤ c1_4) (hT : Tabs w) (h : event_Alike.f a0_0 a0_1 a0_2 a0_3 l0_4 a1_0 a1_1 a1_2 a1_3 l1_4 = some r) :
  Calls Tryz.prog 50 #[.agg #[.int .i64 a0_0, .int .i64 a0_1, .int .i64 a0_2, .string a0_3, .slice A0_4 l0_4.length c0_4], .agg #[.int .i64 a1_0, .int .i64 a1_1, .int .i64 a1_2, .string a1_3, .slice A1_4 l1_4.length c1_4]] w fun e w' => e = .returned (.bool r) ∧ Below w.heap.size w w' := by
 unfold event_Alike.f at h; obtain ⟨t, ht, h⟩ := Option.bind_eq_some_iff.1 h; have huE := Tryz.underlying66; have hb2 : Below w.heap.size w ((w.alloc (.cells #[.int .i64 a0_0, .int .i64 a0_1, .int .i64 a0_2, .string a0_3, .slice A0_4 l0_4.length c0_4] 66)).alloc (.cells #[.int .i64 a1_0, .int .i64 a1_1, .int .i64 a1_2, .string a1_3, .slice A1_4 l1_4.length c1_4] 66)) := ((Below.refl _ w).alloc (Nat.le_refl _) _).alloc (by simp) _; have cS := name_Same.calls a0_3 a1_3 t _ (hT.below hb2) ht; have eg : ∀ args w, (callFunc 115 args).run Tryz.prog w = .ok (.enter 115 args) w := enters_of Tryz.func115 (by kernel_rfl) rfl; have cE := fun (hr : (if l0_4.length = l1_4.length then allK event_Alike.one l0_4 l1_4 else some false) = some r) (W : World) (hW : Below w.heap.size w W) => eqfAttr event_Alike.one 115 eg A0_4 c0_4 l0_4 A1_4 c1_4 l1_4 r W (fun W2 x y b hb hb2 => (event_Alike1.calls x y b W2 (hT.below (hW.trans (hb2.mono hW.size))) hb).mono fun e w' ⟨he, hw⟩ => ⟨he, hb2.trans (hw.mono hb2.size)⟩) (Kd.C_below hr0_4 hW) (Kd.C_below hr1_4 hW) hr
 have CE := aM cE; have HB2 := aM hb2; clear hT ht hb2 hr0_4 hr1_4 eg cE
 cases t with
 | false =>
  rw [if_neg (by decide)] at h; obtain rfl := sI h; go_enter Tryz.func50, Tryz.ntmps50; go_wp2_with (go_at_call 87; refine cS.mono ?_; rintro e w' ⟨rfl, hb'⟩); go_ret; exact ⟨rfl, HB2.out.trans (hb'.mono HB2.out.size)⟩
 | true =>
  rw [if_pos rfl] at h; have cF := fun W hW => CE.out h W hW
  clear CE; go_enter Tryz.func50, Tryz.ntmps50; go_wp2_with (first | (go_at_call 87; refine cS.mono ?_; rintro e w' ⟨rfl, hb'⟩; have x4 := (hb'.cell (p := ⟨w.heap.size, 4, none⟩) (by rw [box2s]; show w.heap.size < _; omega)).trans (box2a (j := 4) rfl); have y4 := (hb'.cell (p := ⟨w.heap.size + 1, 4, none⟩) (by rw [box2s]; show w.heap.size + 1 < _; omega)).trans (box2b (j := 4) rfl); have hB' := HB2.out.trans (hb'.mono HB2.out.size)) | (go_at_call 114; refine (cF _ hB').mono ?_; rintro e w5 ⟨rfl, hb5⟩)); go_ret; exact ⟨rfl, hB'.trans (hb5.mono hB'.size)⟩
def R05_Alike.f (k : Nat) (a0 : ByteArray) (a1 : ByteArray) : Option (Bool) := (R02_Fold.f k a0).bind fun t412 => ((R02_Fold.f k a1).bind fun t413 => (some (t412.toList == t413.toList)))
theorem R05_Alike.mono : ∀ a0 a1 k, LeO (R05_Alike.f k a0 a1) (R05_Alike.f (k + 1) a0 a1) := by
 intro a0 a1 k; unfold R05_Alike.f
 repeat' (with_reducible first | exact R02_Fold.mono _ _ | exact LeO.refl _ | exact LeO.none _ | refine LeO.ite ?_ ?_ | refine LeO.bind ?_ (fun _ => ?_))
theorem R05_Alike.calls (k : Nat) (a0 : ByteArray) (a1 : ByteArray) (r : Bool) (w : World) (h : R05_Alike.f k a0 a1 = some r) :
  Calls Tryz.prog 96 #[.string a0, .string a1] w fun e w' => e = .returned (.bool r) ∧ Below w.heap.size w w' := by
 have HB := aM (Below.refl w.heap.size w); unfold R05_Alike.f at h; have H := h; clear h; replace H := Option.bind_eq_some_iff.mp H; obtain ⟨t412, A30, H⟩ := H; replace H : ((R02_Fold.f k a1).bind fun t413 => (some (t412.toList == t413.toList))) = some r := H; have A3 := aM A30; clear A30; replace H := Option.bind_eq_some_iff.mp H; obtain ⟨t413, A40, H⟩ := H; replace H : (some (t412.toList == t413.toList)) = some r := H; have A4 := aM A40; clear A40; obtain rfl := sI H; go_enter Tryz.func96, Tryz.ntmps96; go_wp2_with (first | ((with_reducible refine gate_callee (f := 164) rfl ?_); refine goesA (some 6) Tryz.func164 #[.string a0] ?_; (with_reducible refine (R02_Fold.calls k a0 t412 _ A3.out).mono ?_); rintro e w101 ⟨rfl, hb⟩; refine ⟨_, rfl, ?_⟩; have n0_ := aM (below_step (bwA) hb); clear HB; have HB := n0_; clear n0_; (try clear hb); (try clear hb2); (try clear hk); (try clear hi)) | ((with_reducible refine gate_callee (f := 164) rfl ?_); refine goesA (some 8) Tryz.func164 #[.string a1] ?_; (with_reducible refine (R02_Fold.calls k a1 t413 _ A4.out).mono ?_); rintro e w102 ⟨rfl, hb⟩; refine ⟨_, rfl, ?_⟩; have n0_ := aM (below_step (bwA) hb); clear HB; have HB := n0_; clear n0_; (try clear hb); (try clear hb2); (try clear hk); (try clear hi))); go_ret; exact ⟨endA, bwA⟩
end Go.Proofs.YtkdndabpaajkaaaGreatDoor.A
