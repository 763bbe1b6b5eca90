import Derived.Test.YtkdndabpaajkaaaGreatDoorAx0
import Derived.Test.YtkdndabpaajkaaaGreatDoorAx1
import Derived.Test.YtkdndabpaajkaaaGreatDoorAx3
import Derived.Test.YtkdndabpaajkaaaGreatDoorAx6
import Derived.Test.YtkdndabpaajkaaaGreatDoorAx7
namespace Go.Proofs.YtkdndabpaajkaaaGreatDoor.A
open Go.RowKit Go.Proofs.YtkdndabpaajkaaaGreatDoorW.PrintWords Go.Proofs.YtkdndabpaajkaaaGreatDoorW.PrintLast Go.Proofs.YtkdndabpaajkaaaGreatDoorW.PrintMore
attribute [local go_sem] max2_int min2_int max_two min_two max_three min_three max_four min_four   -- for this text's walks alone
set_option linter.unusedVariables false
set_option linter.unusedSimpArgs false
attribute [local go_sem high] eqA25 eqA76
set_option maxHeartbeats 8000000
set_option maxRecDepth 100000
def api_Attr_113.l0 : Nat → List (S76) → List (S76) → Int → Int → Option (Bool)
 | 0, _, _, _, _ => none
 | k + 1, x0, x1, x12, x13 => if x13 < x12 then (if 0 ≤ x13 then (if x13 < (x0.length : Int) then (if x13 < (x1.length : Int) then (if (!((((rd_T76 x0 x13).f0).toList) == (((rd_T76 x1 x13).f0).toList)) || ((!(((rd_T76 x0 x13).f1.f0) == ((rd_T76 x1 x13).f1.f0)) || (!(((rd_T76 x0 x13).f1.f1) == ((rd_T76 x1 x13).f1.f1)) || (!((((rd_T76 x0 x13).f1.f2).toList) == (((rd_T76 x1 x13).f1.f2).toList))))))) = true then (some false) else (api_Attr_113.l0 k x0 x1 x12 (wrap64 (x13 + 1)))) else (none)) else (none)) else (none)) else (some true)
def api_Attr_113.f (k : Nat) (l0 : List (S76)) (l1 : List (S76)) : Option (Bool) := if (l0.length : Int) = (l1.length : Int) then (api_Attr_113.l0 k l0 l1 (l0.length : Int) 0) else (some false)
theorem api_Attr_113.mono_l : ∀ k, (∀ y0 y1 y2 y3, LeO (api_Attr_113.l0 k y0 y1 y2 y3) (api_Attr_113.l0 (k + 1) y0 y1 y2 y3))
 | 0 => fun _ _ _ _ r h => by simp [api_Attr_113.l0] at h
 | k + 1 => by
  have ih0 := api_Attr_113.mono_l k
  ·intro y0 y1 y2 y3
   unfold api_Attr_113.l0
   repeat' (with_reducible first | exact ih0 _ _ _ _ | exact LeO.refl _ | exact LeO.none _ | refine LeO.ite ?_ ?_ | refine LeO.bind ?_ (fun _ => ?_))
theorem api_Attr_113.mono : ∀ a0 a1 k, LeO (api_Attr_113.f k a0 a1) (api_Attr_113.f (k + 1) a0 a1) := by
 intro a0 a1 k; have ih0 := api_Attr_113.mono_l k; unfold api_Attr_113.f
 repeat' (with_reducible first | exact ih0 _ _ _ _ | exact LeO.refl _ | exact LeO.none _ | refine LeO.ite ?_ ?_ | refine LeO.bind ?_ (fun _ => ?_))
theorem api_Attr_113.calls (k : Nat) (A0 : Option Addr) (c0 : Nat) (l0 : List (S76)) (A1 : Option Addr) (c1 : Nat) (l1 : List (S76)) (r : Bool) (w : World) (hr0 : Kd.C k76 w A0 l0.length l0) (hc0 : l0.length ≤ c0) (hr1 : Kd.C k76 w A1 l1.length l1) (hc1 : l1.length ≤ c1) (h : api_Attr_113.f k l0 l1 = some r) :
  Calls Tryz.prog 113 #[.slice A0 l0.length c0, .slice A1 l1.length c1] w fun e w' => e = .returned (.bool r) ∧ Drawn0 w w' := by
 have hu76 := Tryz.underlying76; have HR0 := aM hr0; have HC0 := aM hc0; clear hr0 hc0; have HR1 := aM hr1; have HC1 := aM hc1; clear hr1 hc1; unfold api_Attr_113.f at h; have H := h; clear h; revert H; refine itR ?L7p ?L7n
 case' L7p =>
  intro c3 H; obtain ⟨c3b0, c3b1⟩ := fcE c3; have c3b2 : (l0.length == l1.length) = true := by first | simpa using c3 | (simp at c3 ⊢; omega)
  clear c3; have H' := aM H; clear H; have M5 := trivial
 case' L7n =>
  intro c3 H; obtain ⟨c3b0, c3b1⟩ := fcN c3; have c3b2 : (l0.length == l1.length) = false := by first | simpa using c3 | (simp at c3 ⊢; omega)
  obtain rfl := sI H; have M6 := trivial
 all_goals
  case _ =>
   go_enter Tryz.func113, Tryz.ntmps113; go_wp2; repeat (go_quiet (fail); try go_wp2)
   first
    | clear M5
      go_loopg [13] k (fun kq v13 w' => ∃ (x13_1 : Int), v13 = .int .i64 x13_1 ∧ Aside0 (api_Attr_113.l0 kq l0 l1 (l0.length : Int) x13_1 = some r) ∧ Aside0 (kq ≤ k) ∧ Drawn0 w w')
      case atStart => exact ⟨(0), (endS), H', ⟨Nat.le_refl _⟩, drA⟩
      case round =>
       clear H'; (try clear c1); (try clear p2); (try clear c3); (try clear c3b0); (try clear c3b1); (try clear c3b2); (try clear c11); obtain ⟨x13_1, rfl, HA, HK1, ⟨m1, rfl⟩⟩ := hrel
       cases gk with
       | zero => exact absurd HA.out (by simp [api_Attr_113.l0])
       | succ k1 =>
        have H := HA.out; clear HA; simp only [api_Attr_113.l0] at H; revert H; refine itR ?L3p ?L3n
        case' L3p =>
         intro c101 H; have c101b0 := dT c101; clear c101; replace H := itN H; obtain ⟨c102, H⟩ := H; have c102b0 := dT c102; clear c102; replace H := itN H; obtain ⟨c103, H⟩ := H; have c103b0 := dT c103; clear c103; replace H := itN H; obtain ⟨c104, H⟩ := H; have c104b0 := dT c104; clear c104; revert H; refine itR ?L4p ?L4n
         case' L4p =>
          intro c105 H; have c105b0 : (!((((rd_T76 l0 x13_1).f0).toList) == (((rd_T76 l1 x13_1).f0).toList)) || ((!(((rd_T76 l0 x13_1).f1.f0) == ((rd_T76 l1 x13_1).f1.f0)) || (!(((rd_T76 l0 x13_1).f1.f1) == ((rd_T76 l1 x13_1).f1.f1)) || (!((((rd_T76 l0 x13_1).f1.f2).toList) == (((rd_T76 l1 x13_1).f1.f2).toList))))))) = true := c105; clear c105; obtain rfl := sI H; have M1 := trivial
         case' L4n =>
          intro c105 H; have c105b0 : (!((((rd_T76 l0 x13_1).f0).toList) == (((rd_T76 l1 x13_1).f0).toList)) || ((!(((rd_T76 l0 x13_1).f1.f0) == ((rd_T76 l1 x13_1).f1.f0)) || (!(((rd_T76 l0 x13_1).f1.f1) == ((rd_T76 l1 x13_1).f1.f1)) || (!((((rd_T76 l0 x13_1).f1.f2).toList) == (((rd_T76 l1 x13_1).f1.f2).toList))))))) = false := by simpa using c105
          clear c105; have H' := aM H; clear H; have M2 := trivial
        case' L3n =>
         intro c101 H; have c101b0 := dF c101; clear c101; obtain rfl := sI H; go_wp2; (repeat (go_quiet (fail); try go_wp2)); go_ret; exact ⟨endS, drA⟩
        all_goals
         case _ =>
          have p152 : 0 ≤ (x13_1 : Int) := odA; have q152 : x13_1 < (l0.length : Int) := odA; obtain ⟨ad152, e152, hx152_0, hx152_1, hx152_2, hx152_3⟩ := at_T76 HR0.out x13_1 p152 q152
          cases e152
          replace p152 := eq_true p152; replace q152 := eq_true q152; have p153 : 0 ≤ (x13_1 : Int) := odA; have q153 : x13_1 < (l1.length : Int) := odA; obtain ⟨ad153, e153, hx153_0, hx153_1, hx153_2, hx153_3⟩ := at_T76 HR1.out x13_1 p153 q153
          cases e153
          replace p153 := eq_true p153; replace q153 := eq_true q153; go_wp2; repeat (go_quiet (fail); try go_wp2)
          first
           | clear M1
             go_ret; exact ⟨endS, drA⟩
           | clear M2
             go_roundg k1
             case measure => have := HK1.out; omega
             case rel => exact ⟨(wrap64 (x13_1 + 1)), (endS), H', ⟨by have := HK1.out; omega⟩, drA⟩
    | clear M6
      go_ret; exact ⟨endS, drA⟩
def event_Same.f (k : Nat) (a0_0 : Int) (a0_1 : Int) (a0_2 : Int) (a0_3 : ByteArray) (l0_4 : List (S76)) (a1_0 : Int) (a1_1 : Int) (a1_2 : Int) (a1_3 : ByteArray) (l1_4 : List (S76)) : Option (Bool) := if (a0_0 == a1_0 && (a0_1 == a1_1 && (a0_2 == a1_2))) = true then (if a0_3.toList = a1_3.toList then ((api_Attr_113.f k l0_4 l1_4).bind fun t156 => (some t156)) else (some false)) else (some false)
theorem event_Same.mono : ∀ a0 a1 a2 a3 a4 a5 a6 a7 a8 a9 k, LeO (event_Same.f k a0 a1 a2 a3 a4 a5 a6 a7 a8 a9) (event_Same.f (k + 1) a0 a1 a2 a3 a4 a5 a6 a7 a8 a9) := by
 intro a0 a1 a2 a3 a4 a5 a6 a7 a8 a9 k; unfold event_Same.f
 repeat' (with_reducible first | exact api_Attr_113.mono _ _ _ | exact LeO.refl _ | exact LeO.none _ | refine LeO.ite ?_ ?_ | refine LeO.bind ?_ (fun _ => ?_))
theorem event_Same.calls (k : Nat) (a0_0 : Int) (a0_1 : Int) (a0_2 : Int) (a0_3 : ByteArray) (A0_4 : Option Addr) (c0_4 : Nat) (l0_4 : List (S76)) (a1_0 : Int) (a1_1 : Int) (a1_2 : Int) (a1_3 : ByteArray) (A1_4 : Option Addr) (c1_4 : Nat) (l1_4 : List (S76)) (r : Bool) (w : World) (hr0_4 : Kd.C k76 w A0_4 l0_4.length l0_4) (hc0_4 : l0_4.length ≤ c0_4) (hr1_4 : Kd.C k76 w A1_4 l1_4.length l1_4) (hc1_4 : l1_4.length ≤ c1_4) (h : event_Same.f k a0_0 a0_1 a0_2 a0_3 l0_4 a1_0 a1_1 a1_2 a1_3 l1_4 = some r) :
  Calls Tryz.prog 48 #[.agg #[.int .i64 a0_0, .int .i64 a0_1, .int .i64 a0_2, .string a0_3, .slice A0_4 l0_4.length c0_4], .agg #[.int .i64 a1_0, .int .i64 a1_1, .int .i64 a1_2, .string a1_3, .slice A1_4 l1_4.length c1_4]] w fun e w' => e = .returned (.bool r) ∧ Below w.heap.size w w' := by
 have hu66 := Tryz.underlying66; have hu25 := Tryz.underlying25; have HR0_4 := aM hr0_4; have HC0_4 := aM hc0_4; clear hr0_4 hc0_4; have HR1_4 := aM hr1_4; have HC1_4 := aM hc1_4; clear hr1_4 hc1_4; have HB := aM (Below.refl w.heap.size w); unfold event_Same.f at h; have H := h; clear h; revert H; refine itR ?L3p ?L3n
 case' L3p =>
  intro c3 H; have c3b0 : (a0_0 == a1_0 && (a0_1 == a1_1 && (a0_2 == a1_2))) = true := c3
  (try (have c3b1 : decide (a0_0 = a1_0 && (a0_1 == a1_1 && (a0_2 == a1_2))) = true := by simpa using c3))
  (try (have c3b2 : (a0_0 == a1_0 && (a0_1 == a1_1 && (a0_2 == a1_2))) = true := by simpa using c3))
  clear c3; revert H; refine itQ ?L4p ?L4n
  case' L4p =>
   rintro ⟨c4b0, c4b1⟩ H; replace H := bnA H; obtain ⟨t156, A5, H⟩ := H; obtain rfl := sI H; have M1 := trivial
  case' L4n =>
   rintro ⟨c4b0, c4b1⟩ c4 H; obtain rfl := sI H; have M2 := trivial
 case' L3n =>
  intro c3 H; have c3b0 : (a0_0 == a1_0 && (a0_1 == a1_1 && (a0_2 == a1_2))) = false := by simpa using c3
  (try (have c3b1 : decide (a0_0 = a1_0 && (a0_1 == a1_1 && (a0_2 == a1_2))) = false := by simpa using c3))
  (try (have c3b2 : (a0_0 == a1_0 && (a0_1 == a1_1 && (a0_2 == a1_2))) = false := by simpa using c3))
  (try (have c3b3 : ¬ (a0_0 = a1_0 && (a0_1 == a1_1 && (a0_2 == a1_2))) := by simpa using c3))
  clear c3; obtain rfl := sI H; have M2 := trivial
 all_goals
  case _ =>
   go_enter Tryz.func48, Tryz.ntmps48; go_wp2_with (first | ((with_reducible refine gate_dst (N := 2) rfl ?_); refine boxB 2 #[.int .i64 a0_0, .int .i64 a0_1, .int .i64 a0_2, .string a0_3, .slice A0_4 l0_4.length c0_4] 66 HB ?_; clear HB; intro gb154 w101 BK154 GW154 GE154 HB) | ((with_reducible refine gate_dst (N := 3) rfl ?_); refine boxA 3 #[.int .i64 a1_0, .int .i64 a1_1, .int .i64 a1_2, .string a1_3, .slice A1_4 l1_4.length c1_4] 66 ?_; intro gb155 hg w102 hbox hb; have BK155 := aM (hbox); have GW155 := aM (hgW hg : w.heap.size ≤ gb155); have GE155 := aM (hgW hg : w.heap.size ≤ gb155); have NB154_155 := aM (hgL hg BK154 : gb154 ≠ gb155); have NB155_154 := aM (hgG hg BK154 : gb155 ≠ gb154); replace BK154 := aM (bkB BK154 hb); replace HB := aM (below_step (bwA) hb); clear hb hbox hg; have hnb103 := NB154_155.out; have hnc103 := NB155_154.out; obtain ⟨hcz104_0, hcz104_1, hcz104_2, hcz104_3, hcz104_4⟩ := cel5 BK154.out; obtain ⟨hfz104_0, hfz104_1, hfz104_2, hfz104_3, hfz104_4⟩ := frz5 BK154.out; obtain ⟨hcz105_0, hcz105_1, hcz105_2, hcz105_3, hcz105_4⟩ := cel5 BK155.out; obtain ⟨hfz105_0, hfz105_1, hfz105_2, hfz105_3, hfz105_4⟩ := frz5 BK155.out; apply stopA; (case other => exact trivial)))
   case _ =>
    first
     | clear M1
       (try go_wp2_with (first | (go_at_call 113; (with_reducible refine (api_Attr_113.calls _ _ _ _ _ _ _ _ _ ?side1 ?side2 ?side3 ?side4 A5.out).mono ?_); (case side1 => repeat (first | exact (Kd.C_below HR0_4.out HB.out) | (with_reducible refine Kd.C_alloc ?_ _) | (with_reducible refine Kd.C_drewN ?_ _) | (with_reducible refine Kd.C_drew ?_))); (case side2 => exact HC0_4.out); (case side3 => repeat (first | exact (Kd.C_below HR1_4.out HB.out) | (with_reducible refine Kd.C_alloc ?_ _) | (with_reducible refine Kd.C_drewN ?_ _) | (with_reducible refine Kd.C_drew ?_))); (case side4 => exact HC1_4.out); rintro e w' ⟨rfl, ⟨nd, rfl⟩⟩))); go_ret; exact ⟨endA, bwA⟩
     | clear M2
       (try go_wp2_with (fail))
       go_ret; exact ⟨endA, bwA⟩
def strconv_Itoa.f (a0 : Int) : Option ByteArray := if -9223372036854775808 ≤ a0 ∧ a0 ≤ 9223372036854775807 then some ⟨(Lib.itoa a0).toArray⟩ else none
theorem strconv_Itoa.calls (a0 : Int) (r : ByteArray) (w : World) (hT : Tabs w) (h : strconv_Itoa.f a0 = some r) :
  Calls Tryz.prog 121 #[.int .i64 a0] w fun e w' => e = .returned (.string r) ∧ Below w.heap.size w w' := by
 unfold strconv_Itoa.f at h
 split at h
 ·rename_i hs
  obtain rfl := sI h; refine (Tryz.strconv_Itoa a0 hs.1 hs.2 w hT.pow).mono ?_; rintro e w' ⟨he, k, os, rfl⟩; exact ⟨he, Lib.below_grow _ w (Nat.le_refl _) k os⟩
 ·cases h
def event_ShowID.f (a0_0 : Int) (a0_1 : Int) (a0_2 : Int) : Option (ByteArray) := (forest_IsID.f a0_0 a0_1 a0_2).bind fun t158 => (if t158 = true then ((strconv_Itoa.f a0_0).bind fun t159 => (if t159.size + 1 ≤ 9223372036854775807 then ((strconv_Itoa.f a0_1).bind fun t160 => (if (t159 ++ (⟨#[46]⟩ : ByteArray)).size + t160.size ≤ 9223372036854775807 then (if ((t159 ++ (⟨#[46]⟩ : ByteArray)) ++ t160).size + 1 ≤ 9223372036854775807 then ((strconv_Itoa.f a0_2).bind fun t161 => (if (((t159 ++ (⟨#[46]⟩ : ByteArray)) ++ t160) ++ (⟨#[46]⟩ : ByteArray)).size + t161.size ≤ 9223372036854775807 then (some ((((t159 ++ (⟨#[46]⟩ : ByteArray)) ++ t160) ++ (⟨#[46]⟩ : ByteArray)) ++ t161)) else (none))) else (none)) else (none))) else (none))) else (some (⟨#[]⟩ : ByteArray)))
def event_ShowID.T3 : Bool × List (List Nat × List Nat) := (true, [([], []), ([0], [0]), ([1], [1]), ([2], [2]), ([], []), ([4], [4]), ([5, 2], [5]), ([3, 6], [3, 6]), ([7], [7]), ([], []), ([9], [9]), ([10, 6], [10]), ([8, 11], [8, 11]), ([12, 11, 0, 1, 2, 3, 4, 5, 6, 7, 8, 9, 10, 11, 12], [12])])
def event_ShowID.B3 : List Nat := [0, 1, 3, 7, 0, 16, 55, 127, 255, 0, 512, 1655, 4095, 8191]
theorem event_ShowID.tab3 : rtab .any (opsOf Tryz.f56 3) = event_ShowID.T3 := by kernel_rfl
theorem event_ShowID.bits3 : waitsOk event_ShowID.T3.2 event_ShowID.B3 = true := by kernel_rfl
theorem event_ShowID.calls (a0_0 : Int) (a0_1 : Int) (a0_2 : Int) (r : ByteArray) (w : World) (hT : Tabs w) (h : event_ShowID.f a0_0 a0_1 a0_2 = some r) :
  Calls Tryz.prog 56 #[.agg #[.int .i64 a0_0, .int .i64 a0_1, .int .i64 a0_2]] w fun e w' => e = .returned (.string r) ∧ Below w.heap.size w w' := by
 have hu25 := Tryz.underlying25; have HB := aM (Below.refl w.heap.size w); unfold event_ShowID.f at h; have H := h; clear h; have HT := aM hT; clear hT; replace H := bnA H; obtain ⟨t158, A2, H⟩ := H; revert H; refine itR ?L3p ?L3n
 case' L3p =>
  intro c3 H; subst c3; replace H := bnA H; obtain ⟨t159, A4, H⟩ := H; replace H := itN H; obtain ⟨c5, H⟩ := H; have c5b0 := eq_true c5; have c5b1 := dT c5; (try have c5b2 : (9223372036854775807 < t159.size + 1) = False := eq_false (Nat.not_lt.2 c5)); replace H := bnA H; obtain ⟨t160, A6, H⟩ := H; replace H := itN H; obtain ⟨c7, H⟩ := H; have c7b0 := eq_true c7; have c7b1 := dT c7; (try have c7b2 : (9223372036854775807 < (t159 ++ (⟨#[46]⟩ : ByteArray)).size + t160.size) = False := eq_false (Nat.not_lt.2 c7)); (try have c7b3 : (9223372036854775807 < t159.size + 1 + t160.size) = False := eq_false (by have zz_ := c7; simp only [ByteArray.size_append] at zz_; have zy0_ : (⟨#[46]⟩ : ByteArray).size = 1 := rfl; omega)); replace H := itN H; obtain ⟨c8, H⟩ := H; have c8b0 := eq_true c8; have c8b1 := dT c8; (try have c8b2 : (9223372036854775807 < ((t159 ++ (⟨#[46]⟩ : ByteArray)) ++ t160).size + 1) = False := eq_false (Nat.not_lt.2 c8)); (try have c8b3 : (9223372036854775807 < t159.size + 1 + t160.size + 1) = False := eq_false (by have zz_ := c8; simp only [ByteArray.size_append] at zz_; have zy0_ : (⟨#[46]⟩ : ByteArray).size = 1 := rfl; omega)); replace H := bnA H; obtain ⟨t161, A9, H⟩ := H; replace H := itN H; obtain ⟨c10, H⟩ := H; have c10b0 := eq_true c10; have c10b1 := dT c10; (try have c10b2 : (9223372036854775807 < (((t159 ++ (⟨#[46]⟩ : ByteArray)) ++ t160) ++ (⟨#[46]⟩ : ByteArray)).size + t161.size) = False := eq_false (Nat.not_lt.2 c10)); (try have c10b3 : (9223372036854775807 < t159.size + 1 + t160.size + 1 + t161.size) = False := eq_false (by have zz_ := c10; simp only [ByteArray.size_append] at zz_; have zy0_ : (⟨#[46]⟩ : ByteArray).size = 1 := rfl; have zy1_ : (⟨#[46]⟩ : ByteArray).size = 1 := rfl; omega)); obtain rfl := sI H; have M1 := trivial
 case' L3n =>
  intro c3 H; replace c3 := Bool.eq_false_iff.mpr c3; subst c3; obtain rfl := sI H; have M2 := trivial
 all_goals
  case _ =>
   go_enter Tryz.func56, Tryz.ntmps56; try go_wp2_with (first | ((with_reducible refine gate_dst (N := 1) rfl ?_); refine boxB 1 #[.int .i64 a0_0, .int .i64 a0_1, .int .i64 a0_2] 25 HB ?_; clear HB; intro gb157 w101 BK157 GW157 GE157 HB; obtain ⟨hcz102_0, hcz102_1, hcz102_2⟩ := cel3 BK157.out; obtain ⟨hfz102_0, hfz102_1, hfz102_2⟩ := frz3 BK157.out) | ((with_reducible refine gate_callee (f := 73) rfl ?_); refine goesA (some 4) Tryz.func73 #[.agg #[.int .i64 a0_0, .int .i64 a0_1, .int .i64 a0_2]] ?_; (with_reducible refine (forest_IsID.calls _ _ _ _ _ A2.out).mono ?_); rintro e w103 ⟨rfl, hb⟩; refine ⟨_, rfl, ?_⟩; replace BK157 := aM (bkB BK157 hb); replace HB := aM (below_step (bwA) hb); (try clear hb)))
   first
    | clear M1
      replace BK157 := aM (blk_drew BK157.out); replace HB := aM (below_drew1 HB.out); refine start_ (n := 14) (S := fun w' => w'.cell? ⟨gb157, 0, none⟩ = some (.int .i64 a0_0) ∧ w'.cell? ⟨gb157, 1, none⟩ = some (.int .i64 a0_1) ∧ w'.cell? ⟨gb157, 2, none⟩ = some (.int .i64 a0_2)) (ds := []) (mkB 14 0) (by kernel_rfl) rfl rfl (ce3 BK157.out) (fun hHeld => ?_); refine with_tabW event_ShowID.tab3 event_ShowID.bits3 (fun HT_ HW_ => ?_)
      generalize w103.drew = w104 at BK157 HB hHeld ⊢
      refine pureA 0 (some 6) (mkB 14 1) ?_; refine pureA 4 (some 10) (mkB 14 17) ?_; refine pureA 9 (some 15) (mkB 14 529) ?_; refine takeA 1 (some 7) (mkB 14 531) ?_ rfl (Or.inl ⟨by rfl, by rintro w' ⟨s0, s1, s2⟩; go_simp; with_reducible rfl⟩); refine takeA 5 (some 11) (mkB 14 563) ?_ rfl (Or.inl ⟨by rfl, by rintro w' ⟨s0, s1, s2⟩; go_simp; with_reducible rfl⟩); refine takeA 10 (some 16) (mkB 14 1587) ?_ rfl (Or.inl ⟨by rfl, by rintro w' ⟨s0, s1, s2⟩; go_simp; with_reducible rfl⟩); refine oneA 2 (some 8) (mkB 14 1591) (fun K hK => ?_); refine goesS Tryz.func121 #[.int .i64 a0_0] ?_
      with_reducible refine (strconv_Itoa.calls _ _ _ ?side1 A4.out).mono ?_
      (case side1 => exact Tabs.below HT.out (bwA))
      rintro e w105 ⟨rfl, hb⟩; refine ⟨_, rfl, ?_⟩; replace BK157 := aM (bkB BK157 hb); replace HB := aM (below_step (bwA) hb)
      (try clear hb)
      refine hK.out _ _ (ce3 BK157.out) (fun hHeld => ?_); clear hK K; refine normA ?_; refine pureA 3 (some 9) (mkB 14 1599) ?_; refine oneA 6 (some 12) (mkB 14 1663) (fun K hK => ?_); refine goesS Tryz.func121 #[.int .i64 a0_1] ?_
      with_reducible refine (strconv_Itoa.calls _ _ _ ?side1 A6.out).mono ?_
      (case side1 => exact Tabs.below HT.out (bwA))
      rintro e w106 ⟨rfl, hb⟩; refine ⟨_, rfl, ?_⟩; replace BK157 := aM (bkB BK157 hb); replace HB := aM (below_step (bwA) hb)
      (try clear hb)
      refine hK.out _ _ (ce3 BK157.out) (fun hHeld => ?_); clear hK K; refine normA ?_; refine pureA 7 (some 13) (mkB 14 1791) ?_; refine pureA 8 (some 14) (mkB 14 2047) ?_; refine oneA 11 (some 17) (mkB 14 4095) (fun K hK => ?_); refine goesS Tryz.func121 #[.int .i64 a0_2] ?_
      with_reducible refine (strconv_Itoa.calls _ _ _ ?side1 A9.out).mono ?_
      (case side1 => exact Tabs.below HT.out (bwA))
      rintro e w107 ⟨rfl, hb⟩; refine ⟨_, rfl, ?_⟩; replace BK157 := aM (bkB BK157 hb); replace HB := aM (below_step (bwA) hb)
      (try clear hb)
      refine hK.out _ _ (ce3 BK157.out) (fun hHeld => ?_); clear hK K; refine normA ?_; refine pureA 12 (some 18) (mkB 14 8191) ?_; refine pureA 13 (some 2) (mkB 14 16383) ?_; refine done_ (done_of HT_.out (by kernel_rfl)) ?_; (try go_wp2); go_ret; exact ⟨endA, bwA⟩
    | clear M2
      go_ret; exact ⟨endA, bwA⟩
def strconv_FormatInt.f (a0 : Int) (a1 : Int) : Option ByteArray := if a1 = 16 ∧ 0 ≤ a0 ∧ a0 < 256 then some (hexStr a0) else none
theorem pow2_16 (w : World) : Calls Tryz.prog 273 #[.int .i64 16] w fun e w' => e = .returned (.bool true) ∧ w' = w := by
 go_enter Tryz.func273, Tryz.ntmps273; go_wp2; go_ret; exact ⟨rfl, rfl⟩
def digs : ByteArray := ⟨#[48, 49, 50, 51, 52, 53, 54, 55, 56, 57, 97, 98, 99, 100, 101, 102, 103, 104, 105, 106, 107, 108, 109, 110, 111, 112, 113, 114, 115, 116, 117, 118, 119, 120, 121, 122]⟩
theorem digs_at' : ∀ n : Fin 16, ((digs[n.val]'(by have := n.isLt; show n.val < 36; omega)).toNat : Int) = hexd n.val := by decide
theorem digs_at (n : Nat) (h : n < 16) (hp : n < digs.size) : ((digs[n]'hp).toNat : Int) = hexd n := digs_at' ⟨n, h⟩
theorem conv64 (w : World) (D : Int) : (convert 160 9 (.slice (some ⟨w.heap.size, 64, none⟩) 1 1)).run Tryz.prog (w.alloc (.cells (Tryz.zeroCells283.setIfInBounds 64 (.int .u8 D)) 283)) = .ok (.string (strOfNums [D])) (w.alloc (.cells (Tryz.zeroCells283.setIfInBounds 64 (.int .u8 D)) 283)) := by
 refine run_convert_bytes_arg _ 160 5 Tryz.underlying160 Tryz.underlying5 w.heap.size 64 1 1 [D] rfl (fun i hi => ?_) 9 Tryz.underlying9; obtain rfl : i = 0 := by omega
 have hz : Tryz.zeroCells283.size = 65 := by kernel_rfl
 have hn := heap_alloc_new w (.cells (Tryz.zeroCells283.setIfInBounds 64 (.int .u8 D)) 283); exact (Lib.cell_of_heap hn (64 + 0)).trans (by simp [hz])
theorem formatBits16_lo (n : Nat) (h1 : n < 16) (w : World) (hT : Tabs w) :
  Calls Tryz.prog 250 #[.slice none 0 0, .int .u64 n, .int .i64 16, .bool false, .bool false] w fun e w' => e = .returned (.tuple #[.slice none 0 0, .string (hexStr n)]) ∧ Below w.heap.size w w' := by
 have h1z : (n : Int) < 16 := by omega
 have b1 : decide ((n : Int) ≥ 16) = false := dF (by omega); have c2 : ∀ W, Tabs W → Calls Tryz.prog 274 #[.int .u64 16] W _ := fun W hW => Tryz.bits_TrailingZeros 16 (by omega) W (fun _ => hW.tz)
 have k4 : (Lib.ctz 64 16 : Int) = 4 := by decide
 rw [k4] at c2; have hcv := fun D => conv64 w D
 go_enter Tryz.func250, Tryz.ntmps250; go_wp2_with (first | (go_at_call 273; refine (pow2_16 _).mono ?_; rintro e w1 ⟨rfl, rfl⟩) | (go_at_call 274; refine (c2 _ (hT.below ((Below.refl _ _).alloc (Nat.le_refl _) _))).mono ?_; rintro e w1 ⟨rfl, rfl⟩)); refine wp_loop_rounds 1 ?_; rw [rounds_succ]; go_wp2
 have hx : hexStr n = strOfNums [((digs[n]'(by show n < 36; omega)).toNat : Int)] := by
  unfold hexStr; rw [if_pos h1z, digs_at n h1]
 rw [hx]
 go_ret2
 exact ⟨rfl, (Below.refl _ _).alloc (Nat.le_refl _) _⟩
theorem conv63 (w : World) (D E : Int) : (convert 160 9 (.slice (some ⟨w.heap.size, 63, none⟩) 2 2)).run Tryz.prog (w.alloc (.cells ((Tryz.zeroCells283.setIfInBounds 64 (.int .u8 D)).setIfInBounds 63 (.int .u8 E)) 283)) = .ok (.string (strOfNums [E, D])) (w.alloc (.cells ((Tryz.zeroCells283.setIfInBounds 64 (.int .u8 D)).setIfInBounds 63 (.int .u8 E)) 283)) := by
 refine run_convert_bytes_arg _ 160 5 Tryz.underlying160 Tryz.underlying5 w.heap.size 63 2 2 [E, D] rfl (fun i hi => ?_) 9 Tryz.underlying9; have hz : Tryz.zeroCells283.size = 65 := by kernel_rfl
 have hn := heap_alloc_new w (.cells ((Tryz.zeroCells283.setIfInBounds 64 (.int .u8 D)).setIfInBounds 63 (.int .u8 E)) 283); obtain rfl | rfl : i = 0 ∨ i = 1 := by omega
 ·exact (Lib.cell_of_heap hn (63 + 0)).trans (by simp [hz])
 ·exact (Lib.cell_of_heap hn (63 + 1)).trans (by simp [hz])
theorem formatBits16_hi (n p q : Nat) (hn : n = 16 * p + q) (hp0 : 0 < p) (hp : p < 16) (hq : q < 16) (w : World) (hT : Tabs w) :
  Calls Tryz.prog 250 #[.slice none 0 0, .int .u64 n, .int .i64 16, .bool false, .bool false] w fun e w' => e = .returned (.tuple #[.slice none 0 0, .string (strOfNums [hexd p, hexd q])]) ∧ Below w.heap.size w w' := by
 have b1 : decide ((n : Int) ≥ 16) = true := dT (by omega); have b2 : decide ((p : Int) ≥ 16) = false := dF (by omega); have c2 : ∀ W, Tabs W → Calls Tryz.prog 274 #[.int .u64 16] W _ := fun W hW => Tryz.bits_TrailingZeros 16 (by omega) W (fun _ => hW.tz)
 have k4 : (Lib.ctz 64 16 : Int) = 4 := by decide
 rw [k4] at c2; have hcv := fun D E => conv63 w D E
 have ha : bits .and .u64 (n : Int) 15 = (q : Int) := by
  rw [show ((15 : Int)) = ((15 : Nat) : Int) from rfl, u64_and_nat n 15 (by omega) (by omega), show n &&& 15 = n % 16 from Nat.and_two_pow_sub_one_eq_mod n 4]
  omega
 have hs : (n : Int) / 16 = (p : Int) := by omega
 have hpz : (p : Int) < 36 := by omega
 have hqz : (q : Int) < 36 := by omega
 have hp36 : p < 36 := by omega
 have hq36 : q < 36 := by omega
 clear hn; go_enter Tryz.func250, Tryz.ntmps250; go_wp2_with (first | (go_at_call 273; refine (pow2_16 _).mono ?_; rintro e w1 ⟨rfl, rfl⟩) | (go_at_call 274; refine (c2 _ (hT.below ((Below.refl _ _).alloc (Nat.le_refl _) _))).mono ?_; rintro e w1 ⟨rfl, rfl⟩)); refine wp_loop_rounds 2 ?_; rw [rounds_succ]; go_wp2; rw [rounds_succ]; go_wp2
 have hx : strOfNums [hexd p, hexd q] = strOfNums [((digs[p]'hp36).toNat : Int), ((digs[q]'hq36).toNat : Int)] := by
  rw [digs_at p hp hp36, digs_at q hq hq36]
 rw [hx]
 go_ret2
 exact ⟨rfl, (Below.refl _ _).alloc (Nat.le_refl _) _⟩
theorem formatBits16 (n : Nat) (h1 : n < 256) (w : World) (hT : Tabs w) :
  Calls Tryz.prog 250 #[.slice none 0 0, .int .u64 n, .int .i64 16, .bool false, .bool false] w fun e w' => e = .returned (.tuple #[.slice none 0 0, .string (hexStr n)]) ∧ Below w.heap.size w w' := by
 by_cases h : n < 16
 ·exact formatBits16_lo n h w hT
 ·have e : hexStr n = strOfNums [hexd (n / 16 : Nat), hexd (n % 16 : Nat)] := by
   unfold hexStr; rw [if_neg (by omega)]; exact congrArg strOfNums (by congr 1)
  rw [e]; exact formatBits16_hi n (n / 16) (n % 16) (by omega) (by omega) (by omega) (by omega) w hT
theorem strconvFormatInt16 (n : Nat) (h1 : n < 256) (w : World) (hT : Tabs w) :
  Calls Tryz.prog 228 #[.int .i64 n, .int .i64 16] w fun e w' => e = .returned (.string (hexStr n)) ∧ Below w.heap.size w w' := by
 have b1 : decide ((n : Int) < 0) = false := dF (by omega); have cF := formatBits16 n h1 w hT
 generalize hexStr n = E at cF ⊢
 go_enter Tryz.func228, Tryz.ntmps228; go_wp2_with (go_at_call 250; refine cF.mono ?_; rintro e w1 ⟨rfl, hb⟩); go_ret; exact ⟨rfl, hb⟩
theorem strconv_FormatInt.calls (a0 : Int) (a1 : Int) (r : ByteArray) (w : World) (hT : Tabs w) (h : strconv_FormatInt.f a0 a1 = some r) :
  Calls Tryz.prog 245 #[.int .i64 a0, .int .i64 a1] w fun e w' => e = .returned (.string r) ∧ Below w.heap.size w w' := by
 unfold strconv_FormatInt.f at h
 split at h
 ·rename_i hs
  obtain rfl := sI h; obtain ⟨rfl, h0, h1⟩ := hs; obtain ⟨n, rfl⟩ := Int.eq_ofNat_of_zero_le h0; have cF := strconvFormatInt16 n (by omega) w hT; clear h h0
  generalize hexStr n = E at cF ⊢
  go_enter Tryz.func245, Tryz.ntmps245; go_wp2_with (go_at_call 228; refine cF.mono ?_; rintro e w1 ⟨rfl, hb⟩); go_ret; exact ⟨rfl, hb⟩
 ·cases h
def value_escape.f (a0 : Int) : Option ByteArray := if 0 ≤ a0 then some (escB a0) else none
theorem value_escape.calls (a0 : Int) (r : ByteArray) (w : World) (hT : Tabs w) (h : value_escape.f a0 = some r) :
  Calls Tryz.prog 225 #[.int .i32 a0] w fun e w' => e = .returned (.string r) ∧ Below w.heap.size w w' := by
 unfold value_escape.f at h
 split at h
 ·rename_i h0
  obtain rfl := sI h; clear h; have hs4 := encode_le4 a0; have hs2 := hexStr_size a0
  by_cases e1 : a0 = 34
  ·subst e1
   go_enter Tryz.func225, Tryz.ntmps225; go_wp2; go_ret; exact ⟨rfl, Below.refl _ _⟩
  by_cases e2 : a0 = 92
  ·subst e2
   go_enter Tryz.func225, Tryz.ntmps225; go_wp2; go_ret; exact ⟨rfl, Below.refl _ _⟩
  by_cases e3 : a0 = 10
  ·subst e3
   go_enter Tryz.func225, Tryz.ntmps225; go_wp2; go_ret; exact ⟨rfl, Below.refl _ _⟩
  by_cases e4 : a0 = 9
  ·subst e4
   go_enter Tryz.func225, Tryz.ntmps225; go_wp2; go_ret; exact ⟨rfl, Below.refl _ _⟩
  by_cases e5 : a0 = 13
  ·subst e5
   go_enter Tryz.func225, Tryz.ntmps225; go_wp2; go_ret; exact ⟨rfl, Below.refl _ _⟩
  have b1 : (a0 == 34) = false := beq_eq_false_iff_ne.2 e1; have b2 : (a0 == 92) = false := beq_eq_false_iff_ne.2 e2; have b3 : (a0 == 10) = false := beq_eq_false_iff_ne.2 e3; have b4 : (a0 == 9) = false := beq_eq_false_iff_ne.2 e4; have b5 : (a0 == 13) = false := beq_eq_false_iff_ne.2 e5
  by_cases h6 : a0 < 32 ∨ a0 = 127
  ·have he : escB a0 = (⟨#[92, 117, 123]⟩ : ByteArray) ++ hexStr a0 ++ (⟨#[125]⟩ : ByteArray) := by
    unfold escB; rw [if_neg (by omega), if_neg e3, if_neg e4, if_neg e5, if_pos h6]
   rw [he]; clear he; have cF : ∀ W, Tabs W → Calls Tryz.prog 245 #[.int .i64 a0, .int .i64 16] W _ := fun W hW => strconv_FormatInt.calls a0 16 (hexStr a0) W hW (by unfold strconv_FormatInt.f; rw [if_pos ⟨rfl, h0, by omega⟩])
   generalize hexStr a0 = E at hs2 cF ⊢
   clear e1 e2 e3 e4 e5
   by_cases h7 : a0 < 32
   ·have b6 : decide (a0 < 32) = true := dT h7
    clear h6; go_enter Tryz.func225, Tryz.ntmps225; go_wp2_with (go_at_call 245; refine (cF _ hT).mono ?_; rintro e w1 ⟨rfl, hb⟩); go_ret; exact ⟨rfl, hb⟩
   ·have b6 : decide (a0 < 32) = false := dF h7
    obtain rfl : a0 = 127 := by omega
    clear h6; go_enter Tryz.func225, Tryz.ntmps225; go_wp2_with (go_at_call 245; refine (cF _ hT).mono ?_; rintro e w1 ⟨rfl, hb⟩); go_ret; exact ⟨rfl, hb⟩
  ·have b6 : decide (a0 < 32) = false := dF (by omega)
   have b7 : (a0 == 127) = false := beq_eq_false_iff_ne.2 (by omega)
   have he : escB a0 = Utf8.encode a0 := by
    unfold escB; rw [if_neg (by omega), if_neg e3, if_neg e4, if_neg e5, if_neg h6]
   rw [he]; clear he e1 e2 e3 e4 e5 h6; go_enter Tryz.func225, Tryz.ntmps225; go_wp2; go_ret; exact ⟨rfl, Below.refl _ _⟩
 ·cases h
def quotedFrom (s : ByteArray) : Nat → Nat → List UInt8
 | 0, _ => []
 | f + 1, pos => if pos < s.size then (escB (Utf8.decode s pos).1).data.toList ++ quotedFrom s f (pos + (Utf8.decode s pos).2) else []
theorem quotedFrom_end (s : ByteArray) (fuel pos : Nat) (h : ¬ pos < s.size) : quotedFrom s fuel pos = [] := by
 cases fuel with
 | zero => rfl
 | succ f => simp [quotedFrom, h]
theorem escB_le (c : Int) : (escB c).size ≤ 6 := by
 have h4 := encode_le4 c; have h2 := hexStr_size c; unfold escB
 repeat' split
 all_goals first | (simp only [ByteArray.size_append]; show 1 + _ ≤ 6; omega) | (simp only [ByteArray.size_append]; show 3 + _ + 1 ≤ 6; omega) | (show (2 : Nat) ≤ 6; omega) | omega
def value_quoted.f (a0 : ByteArray) : Option ByteArray := if a0.size ≤ 1099511627776 then some ⟨(34 :: (quotedFrom a0 a0.size 0 ++ [34])).toArray⟩ else none
theorem value_quoted.calls (a0 : ByteArray) (r : ByteArray) (w : World) (hT : Tabs w) (h : value_quoted.f a0 = some r) :
  Calls Tryz.prog 178 #[.string a0] w fun e w' => e = .returned (.string r) ∧ Below w.heap.size w w' := by
 unfold value_quoted.f at h
 split at h
 ·rename_i hs
  obtain rfl := sI h; clear h; have hw0 : ∀ W : World, Below w.heap.size w W → Tabs W := fun W hb => hT.below hb
  go_enter Tryz.func178, Tryz.ntmps178; go_wp2_with fail; refine (Tryz.Bld_WriteByte w.heap.size w.heap.size [] 34 _ (Lib.IsBuilderF.of (Lib.fresh_isBuilder 162 5 w)) (by simp) (by simp)).mono ?_; rintro e W1 ⟨rfl, h1, b1, k1⟩; have bw1 : Below w.heap.size w W1 := ((Below.refl _ w).alloc (Nat.le_refl _) _).trans b1; have I1 : Lib.IsBuilderF 162 5 w.heap.size w.heap.size (Lib.byteCells [34]) W1 := Or.inr h1; clear h1 b1 k1; go_wp2_with fail
  go_loopw [] (fun wr => ∃ (pos fuel : Nat) (acc : List UInt8), Lib.IsBuilderF 162 5 w.heap.size w.heap.size (Lib.byteCells acc) wr ∧ wr.heap[W1.heap.size]? = some (.stringIter a0 pos) ∧ Below w.heap.size w wr ∧ acc ++ quotedFrom a0 fuel pos = 34 :: quotedFrom a0 a0.size 0 ∧ a0.size ≤ pos + fuel ∧ acc.length + 6 * fuel ≤ 1 + 6 * a0.size) (fun wr => a0.size - wr.iterPos W1.heap.size)
  case atStart =>
   refine ⟨0, a0.size, [34], I1.alloc _, World.iter_heap W1 a0 0, bw1.alloc bw1.size _, rfl, by omega, by simp⟩
  case round =>
   obtain ⟨pos, fuel, acc, hI, hit, hbw, hacc, hfu, hal⟩ := hrel; have hsz : W1.heap.size < wr.heap.size := (Array.getElem?_eq_some_iff.1 hit).1; have hsw : w.heap.size ≤ W1.heap.size := bw1.size
   have hne : W1.heap.size ≠ w.heap.size := by
    intro e1
    rcases I1 with ⟨_, v, hb, _⟩ | ⟨_, v, hb, _⟩
    all_goals (have := (Array.getElem?_eq_some_iff.1 hb).1; omega)
   by_cases hp : pos < a0.size
   ·have hnx : ∀ ty, (Instr.next (.pointer (some ⟨W1.heap.size, 0, none⟩)) true ty).run Tryz.prog wr = _ := fun ty => Lib.run_next_any_at wr W1.heap.size a0 pos ty hit hp
    have hwd := Lib.width_pos a0 pos; have hd1 := decode_le a0 pos; have hI2 := hI.iterAt hit (pos + (Utf8.decode a0 pos).2); have hit2 := Lib.iterAt_heap wr W1.heap.size a0 pos (pos + (Utf8.decode a0 pos).2) hit; have hbw2 := Lib.below_iterAt hbw (k := W1.heap.size) hsw a0 (pos + (Utf8.decode a0 pos).2); have hsz2 : w.heap.size ≤ (wr.iterAt W1.heap.size a0 (pos + (Utf8.decode a0 pos).2)).heap.size := by rw [Lib.iterAt_size]; omega
    obtain ⟨f, rfl⟩ : ∃ f, fuel = f + 1 := ⟨fuel - 1, by omega⟩; have hq : quotedFrom a0 (f + 1) pos = (escB (Utf8.decode a0 pos).1).data.toList ++ quotedFrom a0 f (pos + (Utf8.decode a0 pos).2) := by rw [quotedFrom, if_pos hp]
    have hle := escB_le ((Utf8.decode a0 pos).1 : Int); have cE := fun W hW => value_escape.calls ((Utf8.decode a0 pos).1 : Int) (escB (Utf8.decode a0 pos).1) W hW (by unfold value_escape.f; rw [if_pos (by omega)])
    generalize escB ((Utf8.decode a0 pos).1 : Int) = E at hq hle cE
    have Hq := Lib.hid hq; clear hq; go_wp2_with fail; refine (cE _ (hw0 _ hbw2)).mono ?_; rintro e W2 ⟨rfl, hb2⟩; have hI3 := builderF_below hI2 hb2; have hit3 := heap_below hit2 hb2; have hbw3 : Below w.heap.size w W2 := hbw2.trans (hb2.mono hsz2); have hsz3 : w.heap.size ≤ W2.heap.size := Nat.le_trans hsz2 hb2.size; clear hI2 hbw2 cE hnx; go_wp2_with fail; refine (Tryz.Bld_WriteString w.heap.size w.heap.size _ E _ hI3 (by rw [Lib.byteCells_length]; omega) hsz3).mono ?_; rintro e W3 ⟨rfl, h1, b1, k1⟩; have hit4 := k1.iter hit3 hne; go_wp2
    go_roundw
    case rel =>
     refine ⟨pos + (Utf8.decode a0 pos).2, f, acc ++ E.data.toList, ?_, hit4, hbw3.trans b1, ?_, by omega, ?_⟩
     ·rw [Lib.byteCells_append, ← strCells_mk]; exact Or.inr h1
     ·rw [← hacc, Hq.out, List.append_assoc]
     ·have : E.data.toList.length = E.size := by rw [Array.length_toList]; rfl
      simp only [List.length_append, this]; omega
    case measure =>
     simp only [World.iterPos, hit4, hit]
     omega
   ·have hnx : ∀ ty, (Instr.next (.pointer (some ⟨W1.heap.size, 0, none⟩)) true ty).run Tryz.prog wr = _ := fun ty => Lib.run_next_end_at wr W1.heap.size a0 pos ty hit hp
    rw [quotedFrom_end a0 fuel pos hp, List.append_nil] at hacc; have hsz3 : w.heap.size ≤ wr.heap.size := by omega
    have Hacc := Lib.hid hacc; clear hacc; go_wp2_with fail; refine (Tryz.Bld_WriteByte w.heap.size w.heap.size _ 34 _ hI (by rw [Lib.byteCells_length]; omega) hsz3).mono ?_; rintro e W3 ⟨rfl, h1, b1, k1⟩
    have I3 : Lib.IsBuilderF 162 5 w.heap.size w.heap.size (Lib.byteCells (acc ++ [34])) W3 := by
     rw [Lib.byteCells_append]; exact Or.inr h1
    have hb3 := hbw.trans b1; clear h1 k1; go_wp2_with fail; refine (Tryz.Builder_String_any_k w.heap.size w.heap.size (acc ++ [34]) _ I3 (Nat.le_trans hsz3 b1.size)).mono ?_; rintro e W4 ⟨rfl, _, b4, _⟩; go_wp2; go_ret; rw [Hacc.out]; exact ⟨rfl, hb3.trans b4⟩
 ·cases h
def strconv_FormatBool_226.f (a0 : Bool) : Option (ByteArray) := if a0 = true then (some (⟨#[116, 114, 117, 101]⟩ : ByteArray)) else (some (⟨#[102, 97, 108, 115, 101]⟩ : ByteArray))
theorem strconv_FormatBool_226.calls (a0 : Bool) (r : ByteArray) (w : World) (h : strconv_FormatBool_226.f a0 = some r) :
  Calls Tryz.prog 226 #[.bool a0] w fun e w' => e = .returned (.string r) ∧ Drawn0 w w' := by
 unfold strconv_FormatBool_226.f at h; have H := h; clear h; revert H; refine itR ?L1p ?L1n
 case' L1p =>
  intro c2 H; subst c2; obtain rfl := sI H
 case' L1n =>
  intro c2 H; replace c2 := Bool.eq_false_iff.mpr c2; subst c2; obtain rfl := sI H
 all_goals
  case _ =>
   go_enter Tryz.func226, Tryz.ntmps226; go_wp2; go_ret; exact ⟨endS, drA⟩
def strconv_FormatBool_179.f (a0 : Bool) : Option (ByteArray) := (strconv_FormatBool_226.f a0).bind fun t162 => (some t162)
theorem strconv_FormatBool_179.calls (a0 : Bool) (r : ByteArray) (w : World) (h : strconv_FormatBool_179.f a0 = some r) :
  Calls Tryz.prog 179 #[.bool a0] w fun e w' => e = .returned (.string r) ∧ Drawn0 w w' := by
 unfold strconv_FormatBool_179.f at h; have H := h; clear h; replace H := Option.bind_eq_some_iff.mp H; obtain ⟨t162, A20, H⟩ := H; replace H : (some t162) = some r := H; have A2 := aM A20; clear A20; obtain rfl := sI H; go_enter Tryz.func179, Tryz.ntmps179; go_wp2_with (first | ((with_reducible refine gate_callee (f := 226) rfl ?_); refine goesA (some 4) Tryz.func226 #[.bool a0] ?_; (with_reducible refine (strconv_FormatBool_226.calls a0 t162 _ A2.out).mono ?_); rintro e w' ⟨rfl, ⟨nd, rfl⟩⟩; refine ⟨_, rfl, ?_⟩)); go_ret; exact ⟨endS, drA⟩
def value_hexed.l0 : Nat → ByteArray → List Int → Int → Int → Option (ByteArray)
 | 0, _, _, _, _ => none
 | k + 1, x0, x3, x8, x9 => if x9 < x8 then (if 0 ≤ x9 then (if x9 < (x0.size : Int) then (if 0 ≤ ((bt x0 x9) / 16) then (if ((bt x0 x9) / 16) < 16 then (if 0 ≤ (Go.bits .and .u8 (bt x0 x9) 15) then (if (Go.bits .and .u8 (bt x0 x9) 15) < 16 then ((some (([bt (⟨#[48, 49, 50, 51, 52, 53, 54, 55, 56, 57, 97, 98, 99, 100, 101, 102]⟩ : ByteArray) ((bt x0 x9) / 16), bt (⟨#[48, 49, 50, 51, 52, 53, 54, 55, 56, 57, 97, 98, 99, 100, 101, 102]⟩ : ByteArray) (Go.bits .and .u8 (bt x0 x9) 15)] : List Int) : List Int)).bind fun y166 => (if x3.length + y166.length < 140737488355328 then (value_hexed.l0 k x0 (x3 ++ y166) x8 (wrap64 (x9 + 1))) else (none))) else (none)) else (none)) else (none)) else (none)) else (none)) else (none)) else (if x3.length < 140737488355328 then (some (strOfNums (x3 ++ [39]))) else (none))
def value_hexed.f (k : Nat) (a0 : ByteArray) : Option (ByteArray) := value_hexed.l0 k a0 (([120, 39] : List Int)) (a0.size : Int) 0
theorem value_hexed.mono_l : ∀ k, (∀ y0 y1 y2 y3, LeO (value_hexed.l0 k y0 y1 y2 y3) (value_hexed.l0 (k + 1) y0 y1 y2 y3))
 | 0 => fun _ _ _ _ r h => by simp [value_hexed.l0] at h
 | k + 1 => by
  have ih0 := value_hexed.mono_l k
  ·intro y0 y1 y2 y3
   unfold value_hexed.l0
   repeat' (with_reducible first | exact ih0 _ _ _ _ | exact LeO.refl _ | exact LeO.none _ | refine LeO.ite ?_ ?_ | refine LeO.bind ?_ (fun _ => ?_))
theorem value_hexed.mono : ∀ a0 k, LeO (value_hexed.f k a0) (value_hexed.f (k + 1) a0) := by
 intro a0 k; have ih0 := value_hexed.mono_l k; unfold value_hexed.f
 repeat' (with_reducible first | exact ih0 _ _ _ _ | exact LeO.refl _ | exact LeO.none _ | refine LeO.ite ?_ ?_ | refine LeO.bind ?_ (fun _ => ?_))
def value_hexed.T5 : Bool × List (List Nat × List Nat) := (true, [([], []), ([], []), ([], []), ([1, 2], [1, 2]), ([3], [3]), ([4], [4]), ([], []), ([], []), ([6, 7], [6, 7]), ([8], [8]), ([9], [9]), ([5, 10], [5, 10]), ([0, 11], [0, 11]), ([12, 12, 0, 1, 2, 3, 4, 5, 6, 7, 8, 9, 10, 11, 12], [0, 12])])
def value_hexed.B5 : List Nat := [0, 0, 0, 6, 14, 30, 0, 0, 192, 448, 960, 2046, 4095, 8191]
theorem value_hexed.tab5 : rtab .any (opsOf Tryz.f180 5) = value_hexed.T5 := by kernel_rfl
theorem value_hexed.bits5 : waitsOk value_hexed.T5.2 value_hexed.B5 = true := by kernel_rfl
theorem value_hexed.calls (k : Nat) (a0 : ByteArray) (r : ByteArray) (w : World) (h : value_hexed.f k a0 = some r) :
  Calls Tryz.prog 180 #[.string a0] w fun e w' => e = .returned (.string r) ∧ Below w.heap.size w w' := by
 have HB := aM (Below.refl w.heap.size w); unfold value_hexed.f at h; have H := h; clear h
 first | ((with_reducible replace H := bsG H); obtain ⟨y163, Ny163, H⟩ := H) | (obtain ⟨y163, hy163⟩ : ∃ y_ : List Int, y_ = (([120, 39] : List Int)) := ⟨_, rfl⟩; rw [← hy163] at H; have Ny163 := aM hy163; clear hy163)
 have H' := aM H; clear H; go_enter Tryz.func180, Tryz.ntmps180; have kc := fun (W : World) (C : Array Value) (n c : Nat) => Lib.run_convert_bytes_const (P := Tryz.prog) W 160 5 C n c Tryz.underlying160 Tryz.underlying5
 go_wp2
 go_loopg [3, 9] k (fun kq v3 v9 w' => ∃ (x3_1 : List Int) (x9_1 : Int), v9 = .int .i64 x9_1 ∧ Aside0 (value_hexed.l0 kq a0 x3_1 (a0.size : Int) x9_1 = some r) ∧ Aside0 (kq ≤ k) ∧ Aside0 (HxR w' w.heap.size (fun _ => True) v3 x3_1) ∧ Aside0 (Below w.heap.size w w'))
 case atStart => exact ⟨[120, 39], (0), (endS), (by have h_ := H'; rw [Ny163.out] at h_; exact h_), ⟨Nat.le_refl _⟩, ⟨.inr ⟨w.heap.size, rfl, Nat.le_refl _, by simp, trivial, fun j u hj => (Lib.cell_of_heap (heap_alloc_new w _) j).trans (by rw [← hj]; rcases j with _ | _ | j <;> rfl)⟩⟩, ⟨(below_alloc (Below.refl _ _) _)⟩⟩
 case round =>
  clear H'; (try clear c1); (try clear p2); (try clear c18); obtain ⟨x3_1, x9_1, rfl, HA, HK1, HO_3, HB⟩ := hrel
  cases gk with
  | zero => exact absurd HA.out (by simp [value_hexed.l0])
  | succ k1 =>
   have H := HA.out; clear HA; simp only [value_hexed.l0] at H; revert H; refine itR ?L1p ?L1n
   case' L1p =>
    intro c103 H; have c103b0 := dT c103; clear c103; replace H := itN H; obtain ⟨c104, H⟩ := H; have c104b0 := dT c104; clear c104; replace H := itN H; obtain ⟨c105, H⟩ := H; have c105b0 := dT c105; clear c105; obtain ⟨ji107, hji107⟩ : ∃ j_ : Int, ((bt a0 x9_1) / 16) = j_ := ⟨_, rfl⟩; replace H : (if 0 ≤ (ji107) then (if (ji107) < 16 then (if 0 ≤ (Go.bits .and .u8 (bt a0 x9_1) 15) then (if (Go.bits .and .u8 (bt a0 x9_1) 15) < 16 then ((some (([bt (⟨#[48, 49, 50, 51, 52, 53, 54, 55, 56, 57, 97, 98, 99, 100, 101, 102]⟩ : ByteArray) (ji107), bt (⟨#[48, 49, 50, 51, 52, 53, 54, 55, 56, 57, 97, 98, 99, 100, 101, 102]⟩ : ByteArray) (Go.bits .and .u8 (bt a0 x9_1) 15)] : List Int) : List Int)).bind fun y166 => (if x3_1.length + y166.length < 140737488355328 then (value_hexed.l0 k1 a0 (x3_1 ++ y166) (a0.size : Int) (wrap64 (x9_1 + 1))) else (none))) else (none)) else (none)) else (none)) else (none)) = some r := by first | (rw [hji107] at H; exact H) | (simp only [hji107] at H ⊢; exact H)
    replace H := itN H; obtain ⟨c108, H⟩ := H; have c108b0 := dT c108; clear c108; replace H := itN H; obtain ⟨c109, H⟩ := H; have c109b0 := dT c109; clear c109; replace H := itN H; obtain ⟨c112, H⟩ := H; have c112b0 := dT c112; clear c112; replace H := itN H; obtain ⟨c113, H⟩ := H; have c113b0 := dT c113; clear c113
    first | ((with_reducible replace H := bsG H); obtain ⟨y166, Ny166, H⟩ := H) | (obtain ⟨y166, hy166⟩ : ∃ y_ : List Int, y_ = (([bt (⟨#[48, 49, 50, 51, 52, 53, 54, 55, 56, 57, 97, 98, 99, 100, 101, 102]⟩ : ByteArray) (ji107), bt (⟨#[48, 49, 50, 51, 52, 53, 54, 55, 56, 57, 97, 98, 99, 100, 101, 102]⟩ : ByteArray) (Go.bits .and .u8 (bt a0 x9_1) 15)] : List Int)) := ⟨_, rfl⟩; rw [← hy166] at H; have Ny166 := aM hy166; clear hy166)
    replace H := itN H; obtain ⟨c115, H⟩ := H; have LMc115 := aM c115; clear c115
    first | ((with_reducible replace H := bsG H); obtain ⟨y169, Ny169, H⟩ := H) | (obtain ⟨y169, hy169⟩ : ∃ y_ : List Int, y_ = (x3_1 ++ y166) := ⟨_, rfl⟩; rw [← hy169] at H; have Ny169 := aM hy169; clear hy169)
    have H' := aM H; clear H; (try go_wp2); replace HO_3 := aM (HxR.drew HO_3.out); replace HB := aM (below_drew1 HB.out); have p106 : 0 ≤ (x9_1 : Int) := odA; have q106 : x9_1 < (a0.size : Int) := odA; have hx106 := bt_at a0 x9_1; replace p106 := eq_true p106; replace q106 := eq_true q106; have p110 : 0 ≤ ((ji107) : Int) := odA; have q110 : (ji107) < (16 : Int) := odA; have hx110 := bt_at (⟨#[48, 49, 50, 51, 52, 53, 54, 55, 56, 57, 97, 98, 99, 100, 101, 102]⟩ : ByteArray) (ji107); replace p110 := eq_true p110; replace q110 := eq_true q110; have p111 : 0 ≤ (x9_1 : Int) := odA; have q111 : x9_1 < (a0.size : Int) := odA; have hx111 := bt_at a0 x9_1; replace p111 := eq_true p111; replace q111 := eq_true q111; have p114 : 0 ≤ ((Go.bits .and .u8 (bt a0 x9_1) 15) : Int) := odA; have q114 : (Go.bits .and .u8 (bt a0 x9_1) 15) < (16 : Int) := odA; have hx114 := bt_at (⟨#[48, 49, 50, 51, 52, 53, 54, 55, 56, 57, 97, 98, 99, 100, 101, 102]⟩ : ByteArray) (Go.bits .and .u8 (bt a0 x9_1) 15); replace p114 := eq_true p114; replace q114 := eq_true q114; refine start_ (n := 14) (S := fun w' => True) (ds := []) (mkB 14 0) (by kernel_rfl) rfl rfl trivial (fun hHeld => ?_); refine with_tabW value_hexed.tab5 value_hexed.bits5 (fun HT_ HW_ => ?_)
    generalize wr.drew = w201 at HO_3 HB hHeld ⊢
    refine pureA 0 (some 12) (mkB 14 1) ?_; refine pureA 1 (some 13) (mkB 14 3) ?_; refine pureA 2 (some 14) (mkB 14 7) ?_; refine pureA 6 (some 18) (mkB 14 71) ?_; refine pureA 7 (some 19) (mkB 14 199) ?_; refine take_ (i := 3) (N := some 15) (v := ?_) (a' := ?_) (mkB 14 207) rfl rfl (take_ofW HT_.out HW_.out (by kernel_rfl)) (fun _ _ _ h => h) (Or.inl ⟨by rfl, ?_⟩) hHeld ?_ ?_; rotate_left
    ·intro w' _
     go_simp
     with_reducible rfl
    rotate_left
    ·simp only [Act.put, List.setIfInBounds_toArray, List.set_cons_zero, List.set_cons_succ, i64_w, i32_w]
     rfl
    refine pureA 4 (some 16) (mkB 14 223) ?_; refine take_ (i := 5) (N := some 17) (v := ?_) (a' := ?_) (mkB 14 255) rfl rfl (take_ofW HT_.out HW_.out (by kernel_rfl)) (fun _ _ _ h => h) (Or.inl ⟨by rfl, ?_⟩) hHeld ?_ ?_; rotate_left
    ·intro w' _
     go_simp
     with_reducible rfl
    rotate_left
    ·simp only [Act.put, List.setIfInBounds_toArray, List.set_cons_zero, List.set_cons_succ, i64_w, i32_w]
     rfl
    refine take_ (i := 8) (N := some 20) (v := ?_) (a' := ?_) (mkB 14 511) rfl rfl (take_ofW HT_.out HW_.out (by kernel_rfl)) (fun _ _ _ h => h) (Or.inl ⟨by rfl, ?_⟩) hHeld ?_ ?_; rotate_left
    ·intro w' _
     go_simp
     with_reducible rfl
    rotate_left
    ·simp only [Act.put, List.setIfInBounds_toArray, List.set_cons_zero, List.set_cons_succ, i64_w, i32_w]
     rfl
    refine pureA 9 (some 21) (mkB 14 1023) ?_; refine take_ (i := 10) (N := some 22) (v := ?_) (a' := ?_) (mkB 14 2047) rfl rfl (take_ofW HT_.out HW_.out (by kernel_rfl)) (fun _ _ _ h => h) (Or.inl ⟨by rfl, ?_⟩) hHeld ?_ ?_; rotate_left
    ·intro w' _
     go_simp
     with_reducible rfl
    rotate_left
    ·simp only [Act.put, List.setIfInBounds_toArray, List.set_cons_zero, List.set_cons_succ, i64_w, i32_w]
     rfl
    refine oneA 11 (some 23) (mkB 14 4095) (fun K hK => ?_); refine Kd.R_lit_step (Kd.int .u8) _ 5 ?hg (N := 23) ?hd (xs := ([bt (⟨#[48, 49, 50, 51, 52, 53, 54, 55, 56, 57, 97, 98, 99, 100, 101, 102]⟩ : ByteArray) (ji107), bt (⟨#[48, 49, 50, 51, 52, 53, 54, 55, 56, 57, 97, 98, 99, 100, 101, 102]⟩ : ByteArray) (Go.bits .and .u8 (bt a0 x9_1) 15)] : List Int)) (inner := [.int .u8 (bt (⟨#[48, 49, 50, 51, 52, 53, 54, 55, 56, 57, 97, 98, 99, 100, 101, 102]⟩ : ByteArray) (ji107)), .int .u8 (bt (⟨#[48, 49, 50, 51, 52, 53, 54, 55, 56, 57, 97, 98, 99, 100, 101, 102]⟩ : ByteArray) (Go.bits .and .u8 (bt a0 x9_1) 15))]) (ok := fun _ => True) (okp := fun _ => True) ?hr ?hp (fun _ hk => hk) trivial (Below.refl _ _) (Nat.le_refl _) (by simp) ?_; (case hd => rfl); (case hg => rfl); (case hr => first | (go_simp; done) | (go_simp; rfl)); (case hp => exact (Reps.one (show Kd.M (Kd.int .u8) _ _ _ (bt (⟨#[48, 49, 50, 51, 52, 53, 54, 55, 56, 57, 97, 98, 99, 100, 101, 102]⟩ : ByteArray) (ji107)) [.int .u8 (bt (⟨#[48, 49, 50, 51, 52, 53, 54, 55, 56, 57, 97, 98, 99, 100, 101, 102]⟩ : ByteArray) (ji107))] from rfl) (Reps.one (show Kd.M (Kd.int .u8) _ _ _ (bt (⟨#[48, 49, 50, 51, 52, 53, 54, 55, 56, 57, 97, 98, 99, 100, 101, 102]⟩ : ByteArray) (Go.bits .and .u8 (bt a0 x9_1) 15)) [.int .u8 (bt (⟨#[48, 49, 50, 51, 52, 53, 54, 55, 56, 57, 97, 98, 99, 100, 101, 102]⟩ : ByteArray) (Go.bits .and .u8 (bt a0 x9_1) 15))] from rfl) (Reps.none _ _))))
    intro v167 w202 ho203 hb hg_ hnew_; clear hg_ hnew_
    (first | rw [← Ny166.out] at ho203 | (simp only [Int.reduceToNat] at ho203; rw [← Ny166.out] at ho203))
    have HO168 := aM (Kd.R_lower (Kd.R_new' ho203 (HxR.lt (by (with_reducible repeat (first | apply HxR.alloc | apply HxR.drewN | apply HxR.drew)); exact HO_3.out))) (below_size (bwA))); replace HO_3 := aM (HxR.elder' (by (with_reducible repeat (first | apply HxR.alloc | apply HxR.drewN | apply HxR.drew)); exact HO_3.out) (Kd.R_base ho203) hb); replace HB := aM (below_step (bwA) hb); clear hb ho203; obtain ⟨Ao205, co205, eo205⟩ := Kd.R_slice HO168.out
    (first | subst eo205 | (injection eo205 with f1_ f2_ f3_; have f4_ := f1_.symm; have f5_ := f3_.symm; clear f1_ f2_ f3_; subst f4_; subst f5_))
    refine hK.out _ _ trivial (fun hHeld => ?_); clear hK K; refine normA ?_; refine oneA 12 (some 24) (mkB 14 8191) (fun K hK => ?_); refine HxR.append_rows_step (w0 := w) w.heap.size (by rfl) (.tmp 12) (.tmp 23) 160 rfl Tryz.underlying160 info5 u3 x3_1 y166 _ _ _ (fun k_ => some k_ ≠ (.slice Ao205 y166.length co205 : Value).ownBlock) rfl rfl ?aO ?aR (by rw [Ny166.out]; exact Nat.zero_lt_succ _) ?aF ?aB ?aS ?aL ?_
    (case aR => repeat (first | exact (Kd.R_reads' HO168.out).2.2 | (with_reducible refine Kd.C_alloc ?_ _) | (with_reducible refine Kd.C_drewN ?_ _) | (with_reducible refine Kd.C_drew ?_)))
    (case aB => exact (bwA))
    (case aF => exact (fun k_ hk => Kd.fresh' (Kd.R_lt (raA HO168.out)) k_ hk))
    (case aO => exact (by (with_reducible repeat (first | apply HxR.alloc | apply HxR.drewN | apply HxR.drew)); exact HxR.mono HO_3.out (fun _ hk => hk.2)))
    (case aS => exact (below_size (bwA)))
    (case aL => have := LMc115.out; omega)
    intro v170 w204 ho hb hg hat; rw [← Ny169.out] at ho; have n0_ := aM (Kd.R_after (ok := (fun _ => True)) (raA HO168.out) hg hat); have n1_ := aM (hb); have n2_ := aM (ho); clear HO168 HB HO_3; have HO168 := n0_; have HB := n1_; have HO171 := n2_; clear n0_ n1_ n2_ ho hb hg hat; refine hK.out _ _ trivial (fun hHeld => ?_); clear hK K; refine normA ?_; refine pureA 13 (some 3) (mkB 14 16383) ?_; refine done_ (done_of HT_.out (by kernel_rfl)) ?_; try go_wp2
    go_roundg k1
    case measure => have := HK1.out; omega
    case rel => exact ⟨(y169), (wrap64 (x9_1 + 1)), (endS), H', ⟨by have := HK1.out; omega⟩, ⟨.inl (raA (Kd.R_mono HO171.out (fun _ hk => trivial)))⟩, ⟨bwA⟩⟩
   case' L1n =>
    intro c103 H; have c103b0 := dF c103; clear c103; replace H := itN H; obtain ⟨c104, H⟩ := H; have LMc104 := aM c104; clear c104
    first | ((with_reducible replace H := bsG H); obtain ⟨y172, Ny172, H⟩ := H) | (obtain ⟨y172, hy172⟩ : ∃ y_ : List Int, y_ = (x3_1 ++ [39]) := ⟨_, rfl⟩; rw [← hy172] at H; have Ny172 := aM hy172; clear hy172)
    obtain rfl := sI H; (try go_wp2_with (first | ((with_reducible refine gate_builtin (b := .append) (xs := #[.tmp 26, .tmp 27]) rfl ?_); at_builtin; refine HxR.append_list (w0 := w) w.heap.size rfl (.tmp 26) (.tmp 27) 160 rfl Tryz.underlying160 info5 u3 x3_1 39 (fun _ => True) rfl rfl ?aO ?aF ?aB ?aS ?aL ?_; (case aB => exact (bwA)); (case aF => exact (fun _ _ => trivial)); (case aO => exact (by (with_reducible repeat (first | apply HxR.alloc | apply HxR.drewN | apply HxR.drew)); exact HO_3.out)); (case aS => exact (below_size (bwA))); (case aL => have := LMc104.out; omega); intro v173 w201 ho hb; rw [← Ny172.out] at ho; have n0_ := aM (hb); have n1_ := aM (ho); clear HB; clear HO_3; have HB := n0_; have HO174 := n1_; clear n0_ n1_; clear ho hb; have hcv202 := own_string (P := Tryz.prog) Tryz.underlying160 Tryz.underlying5 Tryz.underlying9 (Kd.own_of_R HO174.out)))); go_ret; exact ⟨endA, bwA⟩
def value_Show.f (k : Nat) (a0_0 : Int) (a0_1 : Int) (a0_2 : ByteArray) : Option (ByteArray) := (value_Check.f a0_0 a0_1 a0_2).bind fun t176 => (if t176 = true then (if a0_0 = 1 then ((strconv_Itoa.f a0_1).bind fun t177 => (some t177)) else (if a0_0 = 2 then ((value_quoted.f a0_2).bind fun t178 => (some t178)) else (if a0_0 = 3 then ((strconv_FormatBool_179.f (a0_1 == 1)).bind fun t179 => (some t179)) else ((value_hexed.f k a0_2).bind fun t180 => (some t180))))) else (some (⟨#[]⟩ : ByteArray)))
theorem value_Show.mono : ∀ a0 a1 a2 k, LeO (value_Show.f k a0 a1 a2) (value_Show.f (k + 1) a0 a1 a2) := by
 intro a0 a1 a2 k; unfold value_Show.f
 repeat' (with_reducible first | exact value_hexed.mono _ _ | exact LeO.refl _ | exact LeO.none _ | refine LeO.ite ?_ ?_ | refine LeO.bind ?_ (fun _ => ?_))
theorem value_Show.calls (k : Nat) (a0_0 : Int) (a0_1 : Int) (a0_2 : ByteArray) (r : ByteArray) (w : World) (hT : Tabs w) (h : value_Show.f k a0_0 a0_1 a0_2 = some r) :
  Calls Tryz.prog 116 #[.agg #[.int .i64 a0_0, .int .i64 a0_1, .string a0_2]] w fun e w' => e = .returned (.string r) ∧ Below w.heap.size w w' := by
 have hu74 := Tryz.underlying74; have HB := aM (Below.refl w.heap.size w); unfold value_Show.f at h; have H := h; clear h; have HT := aM hT; clear hT; replace H := bnA H; obtain ⟨t176, A2, H⟩ := H; revert H; refine itR ?L7p ?L7n
 case' L7p =>
  intro c3 H; subst c3; revert H; refine itQ ?L8p ?L8n
  case' L8p =>
   rintro ⟨c4b0, c4b1⟩ H; replace H := bnA H; obtain ⟨t177, A5, H⟩ := H; obtain rfl := sI H; have M1 := trivial; have M2 := trivial
  case' L8n =>
   rintro ⟨c4b0, c4b1⟩ c4 H; revert H; refine itQ ?L9p ?L9n
   case' L9p =>
    rintro ⟨c5b0, c5b1⟩ H; replace H := bnA H; obtain ⟨t178, A6, H⟩ := H; obtain rfl := sI H; have M1 := trivial; have M3 := trivial
   case' L9n =>
    rintro ⟨c5b0, c5b1⟩ c5 H; revert H; refine itQ ?L10p ?L10n
    case' L10p =>
     rintro ⟨c6b0, c6b1⟩ H; replace H := bnA H; obtain ⟨t179, A7, H⟩ := H; obtain rfl := sI H; have M1 := trivial; have M4 := trivial
    case' L10n =>
     rintro ⟨c6b0, c6b1⟩ c6 H; replace H := bnA H; obtain ⟨t180, A7, H⟩ := H; obtain rfl := sI H; have M1 := trivial; have M5 := trivial
 case' L7n =>
  intro c3 H; replace c3 := Bool.eq_false_iff.mpr c3; subst c3; obtain rfl := sI H; have M6 := trivial
 all_goals
  case _ =>
   go_enter Tryz.func116, Tryz.ntmps116; go_wp2_with (first | ((with_reducible refine gate_dst (N := 1) rfl ?_); refine boxB 1 #[.int .i64 a0_0, .int .i64 a0_1, .string a0_2] 74 HB ?_; clear HB; intro gb175 w101 BK175 GW175 GE175 HB; obtain ⟨hcz102_0, hcz102_1, hcz102_2⟩ := cel3 BK175.out; obtain ⟨hfz102_0, hfz102_1, hfz102_2⟩ := frz3 BK175.out) | ((with_reducible refine gate_callee (f := 177) rfl ?_); refine goesA (some 4) Tryz.func177 #[.agg #[.int .i64 a0_0, .int .i64 a0_1, .string a0_2]] ?_; (with_reducible refine (value_Check.calls _ _ _ _ _ ?side1 A2.out).mono ?_); (case side1 => exact Tabs.below HT.out (bwA)); rintro e w103 ⟨rfl, hb⟩; refine ⟨_, rfl, ?_⟩; replace BK175 := aM (bkB BK175 hb); replace HB := aM (below_step (bwA) hb); (try clear hb); apply stopA; (case other => exact trivial)))
   case _ =>
    first
     | clear M1
       obtain ⟨hcz104_0, hcz104_1, hcz104_2⟩ := cel3 BK175.out; obtain ⟨hfz104_0, hfz104_1, hfz104_2⟩ := frz3 BK175.out
       first
        | clear M2
          (try go_wp2_with (first | ((with_reducible refine gate_callee (f := 121) rfl ?_); refine goesA (some 12) Tryz.func121 #[.int .i64 a0_1] ?_; (with_reducible refine (strconv_Itoa.calls _ _ _ ?side1 A5.out).mono ?_); (case side1 => exact Tabs.below HT.out (bwA)); rintro e w105 ⟨rfl, hb⟩; refine ⟨_, rfl, ?_⟩; replace BK175 := aM (bkB BK175 hb); replace HB := aM (below_step (bwA) hb); (try clear hb)))); go_ret; exact ⟨endA, bwA⟩
        | clear M3
          (try go_wp2_with (first | ((with_reducible refine gate_callee (f := 178) rfl ?_); refine goesA (some 17) Tryz.func178 #[.string a0_2] ?_; (with_reducible refine (value_quoted.calls _ _ _ ?side1 A6.out).mono ?_); (case side1 => exact Tabs.below HT.out (bwA)); rintro e w105 ⟨rfl, hb⟩; refine ⟨_, rfl, ?_⟩; replace BK175 := aM (bkB BK175 hb); replace HB := aM (below_step (bwA) hb); (try clear hb)))); go_ret; exact ⟨endA, bwA⟩
        | clear M4
          (try go_wp2_with (first | ((with_reducible refine gate_callee (f := 179) rfl ?_); refine goesA (some 23) Tryz.func179 #[.bool (a0_1 == 1)] ?_; (with_reducible refine (strconv_FormatBool_179.calls _ _ _ A7.out).mono ?_); rintro e w' ⟨rfl, ⟨nd, rfl⟩⟩; refine ⟨_, rfl, ?_⟩))); go_ret; exact ⟨endA, bwA⟩
        | clear M5
          (try go_wp2_with (first | ((with_reducible refine gate_callee (f := 180) rfl ?_); refine goesA (some 26) Tryz.func180 #[.string a0_2] ?_; (with_reducible refine (value_hexed.calls _ _ _ _ A7.out).mono ?_); rintro e w105 ⟨rfl, hb⟩; refine ⟨_, rfl, ?_⟩; replace BK175 := aM (bkB BK175 hb); replace HB := aM (below_step (bwA) hb); (try clear hb)))); go_ret; exact ⟨endA, bwA⟩
     | clear M6
       (try go_wp2_with (fail))
       go_ret; exact ⟨endA, bwA⟩
end Go.Proofs.YtkdndabpaajkaaaGreatDoor.A
