import Derived.Test.YtpjjbaclphoilaaGreatDoorAx0
import Derived.Test.YtpjjbaclphoilaaGreatDoorAx1
import Derived.Test.YtpjjbaclphoilaaGreatDoorAx5
import Derived.Test.YtpjjbaclphoilaaGreatDoorAx15
namespace Go.Proofs.YtpjjbaclphoilaaGreatDoor.A
open Go.RowKit Go.Proofs.YtpjjbaclphoilaaGreatDoorW.PrintWords Go.Proofs.YtpjjbaclphoilaaGreatDoorW.PrintLast Go.Proofs.YtpjjbaclphoilaaGreatDoorW.PrintMore
attribute [local go_sem] max2_int min2_int max_two min_two max_three min_three max_four min_four   -- for this text's walks alone
set_option linter.unusedVariables false
set_option linter.unusedSimpArgs false
attribute [local go_sem high] eqA25
set_option maxHeartbeats 8000000
set_option maxRecDepth 100000
def forest_Same.f (k : Nat) (a0_0 : ByteArray) (a0_1 : ByteArray) (l0_2 : List (S86)) (l0_3 : List (S86)) (l0_4 : List ByteArray) (a0_5 : Int) (a0_6 : Int) (a0_7 : Int) (a1_0 : ByteArray) (a1_1 : ByteArray) (l1_2 : List (S86)) (l1_3 : List (S86)) (l1_4 : List ByteArray) (a1_5 : Int) (a1_6 : Int) (a1_7 : Int) : Option (Bool) := if a0_0.toList = a1_0.toList then (if a0_1.toList = a1_1.toList then (if (a0_5 == a1_5 && (a0_6 == a1_6 && (a0_7 == a1_7))) = true then ((api_Field_64.f k l0_2 l1_2).bind fun t487 => (if t487 = true then ((api_Field_64.f k l0_3 l1_3).bind fun t488 => (if t488 = true then ((slices_Equal_string_string.f k l0_4 l1_4).bind fun t489 => (some t489)) else (some false))) else (some false))) else (some false)) else (some false)) else (some false)
theorem forest_Same.calls (k : Nat) (a0_0 : ByteArray) (a0_1 : ByteArray) (A0_2 : Option Addr) (c0_2 : Nat) (l0_2 : List (S86)) (A0_3 : Option Addr) (c0_3 : Nat) (l0_3 : List (S86)) (A0_4 : Option Addr) (c0_4 : Nat) (l0_4 : List ByteArray) (a0_5 : Int) (a0_6 : Int) (a0_7 : Int) (a1_0 : ByteArray) (a1_1 : ByteArray) (A1_2 : Option Addr) (c1_2 : Nat) (l1_2 : List (S86)) (A1_3 : Option Addr) (c1_3 : Nat) (l1_3 : List (S86)) (A1_4 : Option Addr) (c1_4 : Nat) (l1_4 : List ByteArray) (a1_5 : Int) (a1_6 : Int) (a1_7 : Int) (r : Bool) (w : World) (hr0_2 : Kd.C k86 w A0_2 l0_2.length l0_2) (hc0_2 : l0_2.length ≤ c0_2) (hr0_3 : Kd.C k86 w A0_3 l0_3.length l0_3) (hc0_3 : l0_3.length ≤ c0_3) (hr0_4 : Kd.C Kd.string w A0_4 l0_4.length l0_4) (hc0_4 : l0_4.length ≤ c0_4) (hr1_2 : Kd.C k86 w A1_2 l1_2.length l1_2) (hc1_2 : l1_2.length ≤ c1_2) (hr1_3 : Kd.C k86 w A1_3 l1_3.length l1_3) (hc1_3 : l1_3.length ≤ c1_3) (hr1_4 : Kd.C Kd.string w A1_4 l1_4.length l1_4) (hc1_4 : l1_4.length ≤ c1_4) (h : forest_Same.f k a0_0 a0_1 l0_2 l0_3 l0_4 a0_5 a0_6 a0_7 a1_0 a1_1 l1_2 l1_3 l1_4 a1_5 a1_6 a1_7 = some r) :
  Calls Tryz.prog 26 #[.agg #[.string a0_0, .string a0_1, .slice A0_2 l0_2.length c0_2, .slice A0_3 l0_3.length c0_3, .slice A0_4 l0_4.length c0_4, .int .i64 a0_5, .int .i64 a0_6, .int .i64 a0_7], .agg #[.string a1_0, .string a1_1, .slice A1_2 l1_2.length c1_2, .slice A1_3 l1_3.length c1_3, .slice A1_4 l1_4.length c1_4, .int .i64 a1_5, .int .i64 a1_6, .int .i64 a1_7]] w fun e w' => e = .returned (.bool r) ∧ Below w.heap.size w w' := by
 have hu30 := Tryz.underlying30; have hu25 := Tryz.underlying25; have HR0_2 := aM hr0_2; have HC0_2 := aM hc0_2; clear hr0_2 hc0_2; have HR0_3 := aM hr0_3; have HC0_3 := aM hc0_3; clear hr0_3 hc0_3; have HR0_4 := aM hr0_4; have HC0_4 := aM hc0_4; clear hr0_4 hc0_4; have HR1_2 := aM hr1_2; have HC1_2 := aM hc1_2; clear hr1_2 hc1_2; have HR1_3 := aM hr1_3; have HC1_3 := aM hc1_3; clear hr1_3 hc1_3; have HR1_4 := aM hr1_4; have HC1_4 := aM hc1_4; clear hr1_4 hc1_4; have HB := aM (Below.refl w.heap.size w); unfold forest_Same.f at h; have H := h; clear h; revert H; refine itQ ?L7p ?L7n
 case' L7p =>
  rintro ⟨c3b0, c3b1⟩ H; revert H; refine itQ ?L8p ?L8n
  case' L8p =>
   rintro ⟨c4b0, c4b1⟩ H; revert H; refine itR ?L9p ?L9n
   case' L9p =>
    intro c5 H; have c5b0 : (a0_5 == a1_5 && (a0_6 == a1_6 && (a0_7 == a1_7))) = true := c5
    (try (have c5b1 : decide (a0_5 = a1_5 && (a0_6 == a1_6 && (a0_7 == a1_7))) = true := by simpa using c5))
    (try (have c5b2 : (a0_5 == a1_5 && (a0_6 == a1_6 && (a0_7 == a1_7))) = true := by simpa using c5))
    clear c5; replace H := bnA H; obtain ⟨t487, A6, H⟩ := H; revert H; refine itR ?L10p ?L10n
    case' L10p =>
     intro c7 H; subst c7; replace H := bnA H; obtain ⟨t488, A8, H⟩ := H; revert H; refine itR ?L11p ?L11n
     case' L11p =>
      intro c9 H; subst c9; replace H := bnA H; obtain ⟨t489, A10, H⟩ := H; obtain rfl := sI H; have M1 := trivial; have M2 := trivial; have M3 := trivial
     case' L11n =>
      intro c9 H; replace c9 := Bool.eq_false_iff.mpr c9; subst c9; obtain rfl := sI H; have M1 := trivial; have M2 := trivial; have M4 := trivial
    case' L10n =>
     intro c7 H; replace c7 := Bool.eq_false_iff.mpr c7; subst c7; obtain rfl := sI H; have M1 := trivial; have M5 := trivial
   case' L9n =>
    intro c5 H; have c5b0 : (a0_5 == a1_5 && (a0_6 == a1_6 && (a0_7 == a1_7))) = false := by simpa using c5
    (try (have c5b1 : decide (a0_5 = a1_5 && (a0_6 == a1_6 && (a0_7 == a1_7))) = false := by simpa using c5))
    (try (have c5b2 : (a0_5 == a1_5 && (a0_6 == a1_6 && (a0_7 == a1_7))) = false := by simpa using c5))
    (try (have c5b3 : ¬ (a0_5 = a1_5 && (a0_6 == a1_6 && (a0_7 == a1_7))) := by simpa using c5))
    clear c5; obtain rfl := sI H; have M6 := trivial
  case' L8n =>
   rintro ⟨c4b0, c4b1⟩ c4 H; obtain rfl := sI H; have M6 := trivial
 case' L7n =>
  rintro ⟨c3b0, c3b1⟩ c3 H; obtain rfl := sI H; have M6 := trivial
 all_goals
  case _ =>
   go_enter Tryz.func26, Tryz.ntmps26; go_wp2_with (first | ((with_reducible refine gate_dst (N := 2) rfl ?_); refine boxB 2 #[.string a0_0, .string a0_1, .slice A0_2 l0_2.length c0_2, .slice A0_3 l0_3.length c0_3, .slice A0_4 l0_4.length c0_4, .int .i64 a0_5, .int .i64 a0_6, .int .i64 a0_7] 30 HB ?_; clear HB; intro gb485 w101 BK485 GW485 GE485 HB) | ((with_reducible refine gate_dst (N := 3) rfl ?_); refine boxA 3 #[.string a1_0, .string a1_1, .slice A1_2 l1_2.length c1_2, .slice A1_3 l1_3.length c1_3, .slice A1_4 l1_4.length c1_4, .int .i64 a1_5, .int .i64 a1_6, .int .i64 a1_7] 30 ?_; intro gb486 hg w102 hbox hb; have BK486 := aM (hbox); have GW486 := aM (hgW hg : w.heap.size ≤ gb486); have GE486 := aM (hgW hg : w.heap.size ≤ gb486); have NB485_486 := aM (hgL hg BK485 : gb485 ≠ gb486); have NB486_485 := aM (hgG hg BK485 : gb486 ≠ gb485); replace BK485 := aM (bkB BK485 hb); replace HB := aM (below_step (bwA) hb); clear hb hbox hg; have hnb103 := NB485_486.out; have hnc103 := NB486_485.out; obtain ⟨hcz104_0, hcz104_1, hcz104_2, hcz104_3, hcz104_4, hcz104_5, hcz104_6, hcz104_7⟩ := cel8 BK485.out; obtain ⟨hfz104_0, hfz104_1, hfz104_2, hfz104_3, hfz104_4, hfz104_5, hfz104_6, hfz104_7⟩ := frz8 BK485.out; obtain ⟨hcz105_0, hcz105_1, hcz105_2, hcz105_3, hcz105_4, hcz105_5, hcz105_6, hcz105_7⟩ := cel8 BK486.out; obtain ⟨hfz105_0, hfz105_1, hfz105_2, hfz105_3, hfz105_4, hfz105_5, hfz105_6, hfz105_7⟩ := frz8 BK486.out; apply stopA; (case other => exact trivial)))
   case _ =>
    first
     | clear M1
       go_wp2_with (first | (go_at_call 64; (with_reducible refine (api_Field_64.calls _ _ _ _ _ _ _ _ _ ?side1 ?side2 ?side3 ?side4 A6.out).mono ?_); (case side1 => exact Kd.C_below HR0_2.out (bwA)); (case side2 => exact HC0_2.out); (case side3 => exact Kd.C_below HR1_2.out (bwA)); (case side4 => exact HC1_2.out); rintro e w' ⟨rfl, ⟨nd, rfl⟩⟩; apply stopA; (case other => exact trivial)))
       case _ =>
        first
         | clear M2
           go_wp2_with (first | (go_at_call 64; (with_reducible refine (api_Field_64.calls _ _ _ _ _ _ _ _ _ ?side1 ?side2 ?side3 ?side4 A8.out).mono ?_); (case side1 => repeat (first | exact (Kd.C_below HR0_3.out (bwA)) | (with_reducible refine Kd.C_alloc ?_ _) | (with_reducible refine Kd.C_drewN ?_ _) | (with_reducible refine Kd.C_drew ?_))); (case side2 => exact HC0_3.out); (case side3 => repeat (first | exact (Kd.C_below HR1_3.out (bwA)) | (with_reducible refine Kd.C_alloc ?_ _) | (with_reducible refine Kd.C_drewN ?_ _) | (with_reducible refine Kd.C_drew ?_))); (case side4 => exact HC1_3.out); rintro e w' ⟨rfl, ⟨nd, rfl⟩⟩; apply stopA; (case other => exact trivial)))
           case _ =>
            first
             | clear M3
               (try go_wp2_with (first | (go_at_call 65; (with_reducible refine (slices_Equal_string_string.calls _ _ _ _ _ _ _ _ _ ?side1 ?side2 ?side3 ?side4 A10.out).mono ?_); (case side1 => repeat (first | exact (Kd.C_below HR0_4.out (bwA)) | (with_reducible refine Kd.C_alloc ?_ _) | (with_reducible refine Kd.C_drewN ?_ _) | (with_reducible refine Kd.C_drew ?_))); (case side2 => exact HC0_4.out); (case side3 => repeat (first | exact (Kd.C_below HR1_4.out (bwA)) | (with_reducible refine Kd.C_alloc ?_ _) | (with_reducible refine Kd.C_drewN ?_ _) | (with_reducible refine Kd.C_drew ?_))); (case side4 => exact HC1_4.out); rintro e w' ⟨rfl, ⟨nd, rfl⟩⟩))); go_ret; exact ⟨endA, bwA⟩
             | clear M4
               (try go_wp2_with (fail))
               go_ret; exact ⟨endA, bwA⟩
         | clear M5
           (try go_wp2_with (fail))
           go_ret; exact ⟨endA, bwA⟩
     | clear M6
       (try go_wp2_with (fail))
       go_ret; exact ⟨endA, bwA⟩
end Go.Proofs.YtpjjbaclphoilaaGreatDoor.A
