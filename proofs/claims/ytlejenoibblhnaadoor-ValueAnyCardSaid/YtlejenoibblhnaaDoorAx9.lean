-- By drv.py, the session's own driver round the kit's print: the machine's side of the laws, function by function. Not trusted: Lean checks it.
import Derived.Test.YtlejenoibblhnaaDoorAx0
import Derived.Test.YtlejenoibblhnaaDoorAx2
import Derived.Test.YtlejenoibblhnaaDoorAx5
import Derived.Test.YtlejenoibblhnaaDoorAx6
import Derived.Test.YtlejenoibblhnaaDoorAx7
import Derived.Test.YtlejenoibblhnaaDoorAx8
namespace Go.Proofs.YtlejenoibblhnaaDoor.A
open Go.RowKit Go.Proofs.YtlejenoibblhnaaDoorW.PrintWords Go.Proofs.YtlejenoibblhnaaDoorW.PrintLast Go.Proofs.YtlejenoibblhnaaDoorW.PrintMore
attribute [local go_sem] max2_int min2_int max_two min_two max_three min_three max_four min_four   -- for this text's walks alone
set_option linter.unusedVariables false
set_option linter.unusedSimpArgs false

/-! ### value_Scan: function 16 -/
def value_Scan.j0 : Nat → ByteArray → Bool → Option (Int × Int × ByteArray × ByteArray × Int)
 | 0, _, _ => none
 | k + 1, x0, x26 => if x26 = true then ((value_integer.f k x0).bind fun bt162 => (some (bt162.1, bt162.2.1, bt162.2.2.1, bt162.2.2.2.1, bt162.2.2.2.2))) else ((value_boolean.f k x0).bind fun bt167 => (some (bt167.1, bt167.2.1, bt167.2.2.1, bt167.2.2.2.1, bt167.2.2.2.2)))
def value_Scan.f (k : Nat) (a0 : ByteArray) : Option (Int × Int × ByteArray × ByteArray × Int) := if a0.toList = ([] : List UInt8) then (some (0, 0, (⟨#[]⟩ : ByteArray), (⟨#[]⟩ : ByteArray), 3)) else (if 0 < (a0.size : Int) then (if (bt a0 0) = 34 then ((value_text.f k a0).bind fun bt151 => (some (bt151.1, bt151.2.1, bt151.2.2.1, bt151.2.2.2.1, bt151.2.2.2.2))) else ((strings_HasPrefix.f a0 (⟨#[120, 39]⟩ : ByteArray)).bind fun t156 => (if t156 = true then ((value_bytes.f k a0).bind fun bt157 => (some (bt157.1, bt157.2.1, bt157.2.2.1, bt157.2.2.2.1, bt157.2.2.2.2))) else (if (bt a0 0) = 45 then (value_Scan.j0 k a0 true) else (if (bt a0 0) ≥ 48 then (value_Scan.j0 k a0 (decide ((bt a0 0) ≤ 57))) else (value_Scan.j0 k a0 false)))))) else (none))
theorem value_Scan.mono_l : ∀ k, (∀ y0 y1, LeO (value_Scan.j0 k y0 y1) (value_Scan.j0 (k + 1) y0 y1))
 | 0 => fun _ _ r h => by simp [value_Scan.j0] at h
 | k + 1 => by
  have ih0 := value_Scan.mono_l k
  ·intro y0 y1
   unfold value_Scan.j0
   repeat' (with_reducible first | exact ih0 _ _ | exact value_boolean.mono _ _ | exact value_bytes.mono _ _ | exact value_integer.mono _ _ | exact value_text.mono _ _ | exact LeO.refl _ | exact LeO.none _ | refine LeO.ite ?_ ?_ | refine LeO.bind ?_ (fun _ => ?_))
theorem value_Scan.mono : ∀ a0 k, LeO (value_Scan.f k a0) (value_Scan.f (k + 1) a0) := by
 intro a0 k
 have ih0 := value_Scan.mono_l k
 unfold value_Scan.f
 repeat' (with_reducible first | exact ih0 _ _ | exact value_boolean.mono _ _ | exact value_bytes.mono _ _ | exact value_integer.mono _ _ | exact value_text.mono _ _ | exact LeO.refl _ | exact LeO.none _ | refine LeO.ite ?_ ?_ | refine LeO.bind ?_ (fun _ => ?_))
set_option maxHeartbeats 8000000 in
set_option maxRecDepth 100000 in
theorem value_Scan.calls (k : Nat) (a0 : ByteArray) (r1 : Int) (r2 : Int) (r3 : ByteArray) (r4 : ByteArray) (r5 : Int) (w : World) (hT : Tabs w) (h : value_Scan.f k a0 = some (r1, r2, r3, r4, r5)) :
  Calls Tryd.prog 16 #[.string a0] w fun e w' => e = .returned (.tuple #[.agg #[.int .i64 r1, .int .i64 r2, .string r3], .string r4, .int .i64 r5]) ∧ Below w.heap.size w w' := by
 have hu26 := Tryd.underlying26
 have HB := Aside0.mk (Below.refl w.heap.size w)
 unfold value_Scan.f at h
 have H := h
 clear h
 have HT := Aside0.mk hT
 clear hT
 revert H; refine itQ ?L14p ?L14n
 case' L14p =>
  rintro ⟨c2b0, c2b1⟩ H
  obtain ⟨rfl, rfl, rfl, rfl, rfl⟩ := sJ5 H
  have M8 := True.intro
  have M9 := True.intro
 case' L14n =>
  rintro ⟨c2b0, c2b1⟩ c2 H
  replace H := itN H
  obtain ⟨c3, H⟩ := H
  have c3b0 := decide_eq_true c3
  have c3b1 : decide (0 < a0.size) = true := decide_eq_true (by omega)
  clear c3
  revert H; refine itQ ?L15p ?L15n
  case' L15p =>
   rintro ⟨c5b0, c5b1⟩ H
   replace H := bnA H
   obtain ⟨⟨t151, t152, t153, t154, t155⟩, A6, H⟩ := H
   dsimp only at H
   obtain ⟨rfl, rfl, rfl, rfl, rfl⟩ := sJ5 H
   have M8 := True.intro
   have M10 := True.intro
   have M11 := True.intro
  case' L15n =>
   rintro ⟨c5b0, c5b1⟩ c5 H
   replace H := bnA H
   obtain ⟨t156, A6, H⟩ := H
   revert H; refine itR ?L16p ?L16n
   case' L16p =>
    intro c7 H
    subst c7
    replace H := bnA H
    obtain ⟨⟨t157, t158, t159, t160, t161⟩, A8, H⟩ := H
    dsimp only at H
    obtain ⟨rfl, rfl, rfl, rfl, rfl⟩ := sJ5 H
    have M8 := True.intro
    have M10 := True.intro
    have M12 := True.intro
   case' L16n =>
    intro c7 H
    replace c7 := Bool.eq_false_iff.mpr c7
    subst c7
    have HC101 := Aside0.mk H
    clear H
    have M13 := True.intro
 all_goals
  case _ =>
   go_enter Tryd.func16, Tryd.ntmps16
   first
    | clear M8
      go_wp2_with (first | ((with_reducible refine gate_dst (N := 2) rfl ?_); refine boxB 2 #[.int .i64 0, .int .i64 0, .string (⟨#[]⟩ : ByteArray)] 26 HB ?_; clear HB; intro gb150 w101 BK150 GW150 GE150 HB; apply stopA; (case other => exact True.intro)))
      case _ =>
       first
        | clear M9
          obtain ⟨hcz102_0, hcz102_1, hcz102_2⟩ := cel3 BK150.out
          obtain ⟨hfz102_0, hfz102_1, hfz102_2⟩ := frz3 BK150.out
          (try go_wp2_with (fail))
          refine bodyPost_ret (results_ctt rfl _ _ gb150 26 #[.int .i64 0, .int .i64 0, .string (⟨#[]⟩ : ByteArray)] (0, 0) _ rfl blkZ Tryd.underlying26 rfl (by kernel_rfl)) rfl ?_
          exact ⟨endA, bwA⟩
        | clear M10
          have p4 : 0 ≤ (0 : Int) := (by omega)
          have q4 : 0 < a0.size := (by have : (0 : Int) < (a0.size : Int) := odA; omega)
          have hx4 : ∀ h : 0 < a0.size, ((a0[0]'h).toNat : Int) = bt a0 0 := bt_at a0 0
          clear p4
          have qi4 : (0 < (a0.size : Int)) = True := eq_true (odA)
          replace q4 := eq_true q4
          first
           | clear M11
             try go_wp2_with (first | ((with_reducible refine gate_callee (f := 23) rfl ?_); refine goesA (some 14) Tryd.func23 #[.string a0] ?_; (with_reducible refine (value_text.calls _ _ _ _ _ _ _ _ ?side1 A6.out).mono ?_); (case side1 => exact Tabs.below HT.out (bwA)); rintro e w102 ⟨rfl, hb⟩; refine ⟨_, rfl, ?_⟩; replace BK150 := Aside0.mk (bkB BK150 hb); replace HB := Aside0.mk (below_step (bwA) hb); (try clear hb); obtain ⟨hcz103_0, hcz103_1, hcz103_2⟩ := cel3 BK150.out; obtain ⟨hfz103_0, hfz103_1, hfz103_2⟩ := frz3 BK150.out))
             refine bodyPost_ret (results_ctt rfl _ _ gb150 26 #[.int .i64 t151, .int .i64 t152, .string t153] (0, 0) _ rfl blkZ Tryd.underlying26 rfl (by kernel_rfl)) rfl ?_
             exact ⟨endA, bwA⟩
           | clear M12
             try go_wp2_with (first | ((with_reducible refine gate_callee (f := 24) rfl ?_); refine goesA (some 20) Tryd.func24 #[.string a0, .string (⟨#[120, 39]⟩ : ByteArray)] ?_; (with_reducible refine (strings_HasPrefix.calls _ _ _ _ A6.out).mono ?_); rintro e w' ⟨rfl, ⟨nd, rfl⟩⟩; refine ⟨_, rfl, ?_⟩; (try (rw [drewN_self w101]; generalize hq_ : World.drewN w101 _ = w101; have n0_ : Aside0 (w101.heap[gb150]? = some (.cells #[.int .i64 0, .int .i64 0, .string (⟨#[]⟩ : ByteArray)] 26 (0, 0))) := ⟨by rw [← hq_]; exact blkA⟩; have n1_ : Aside0 (Below w.heap.size w w101) := ⟨by rw [← hq_]; exact (bwA)⟩; clear BK150 HB hq_; have BK150 := n0_; have HB := n1_; clear n0_ n1_))) | ((with_reducible refine gate_callee (f := 25) rfl ?_); refine goesA (some 22) Tryd.func25 #[.string a0] ?_; (with_reducible refine (value_bytes.calls _ _ _ _ _ _ _ _ A8.out).mono ?_); rintro e w102 ⟨rfl, hb⟩; refine ⟨_, rfl, ?_⟩; replace BK150 := Aside0.mk (bkB BK150 hb); replace HB := Aside0.mk (below_step (bwA) hb); (try clear hb); obtain ⟨hcz103_0, hcz103_1, hcz103_2⟩ := cel3 BK150.out; obtain ⟨hfz103_0, hfz103_1, hfz103_2⟩ := frz3 BK150.out))
             refine bodyPost_ret (results_ctt rfl _ _ gb150 26 #[.int .i64 t157, .int .i64 t158, .string t159] (0, 0) _ rfl blkZ Tryd.underlying26 rfl (by kernel_rfl)) rfl ?_
             exact ⟨endA, bwA⟩
    | clear M13
      go_upto_region 7 with (first | ((with_reducible refine gate_dst (N := 2) rfl ?_); refine boxA 2 #[.int .i64 0, .int .i64 0, .string (⟨#[]⟩ : ByteArray)] 26 ?_; intro gb150 hg w102 hbox hb; have n0_ := Aside0.mk (below_step (bwA) hb); have n1_ := Aside0.mk (hbox); have n2_ := Aside0.mk (hgW hg : w.heap.size ≤ gb150); have n3_ := Aside0.mk (hgW hg : w.heap.size ≤ gb150); clear HB; have HB := n0_; have BK150 := n1_; have GW150 := n2_; have GE150 := n3_; clear n0_ n1_ n2_ n3_; clear hb hbox hg; have p4 : 0 ≤ (0 : Int) := (by omega); have q4 : 0 < a0.size := (by have : (0 : Int) < (a0.size : Int) := odA; omega); have hx4 : ∀ h : 0 < a0.size, ((a0[0]'h).toNat : Int) = bt a0 0 := bt_at a0 0; clear p4; have qi4 : (0 < (a0.size : Int)) = True := eq_true (odA); replace q4 := eq_true q4) | ((with_reducible refine gate_callee (f := 24) rfl ?_); refine goesA (some 20) Tryd.func24 #[.string a0, .string (⟨#[120, 39]⟩ : ByteArray)] ?_; (with_reducible refine (strings_HasPrefix.calls _ _ _ _ A6.out).mono ?_); rintro e w' ⟨rfl, ⟨nd, rfl⟩⟩; refine ⟨_, rfl, ?_⟩))
      (try simp only [Act.put, List.setIfInBounds_toArray, List.set_cons_zero, List.set_cons_succ])
      go_cut [26] (fun v26 wc => ∃ (kq : Nat) (x26_100 : Bool), v26 = .bool x26_100 ∧ Aside0 (value_Scan.j0 kq a0 x26_100 = some (r1, r2, r3, r4, r5)) ∧ Aside0 (kq ≤ k) ∧ Aside0 (wc.heap[gb150]? = some (.cells #[.int .i64 0, .int .i64 0, .string (⟨#[]⟩ : ByteArray)] 26 (0, 0))) ∧ Aside0 (Below w.heap.size w wc))
      case first =>
       have H := HC101.out
       clear HC101
       revert H; refine itQ ?L5p ?L5n
       case' L5p =>
        rintro ⟨c104b0, c104b1⟩ H
        (first | rw [c104b0] | (simp only [i64_w, i32_w]; rw [c104b0]) | skip)
        have H' := Aside0.mk H
        clear H
        have M1 := True.intro
       case' L5n =>
        rintro ⟨c104b0, c104b1⟩ c104 H
        (first | rw [c104b0] | (simp only [i64_w, i32_w]; rw [c104b0]) | skip)
        revert H; refine itR ?L6p ?L6n
        case' L6p =>
         intro c106 H
         have c106b0 := geT c106
         clear c106
         have H' := Aside0.mk H
         clear H
         have M2 := True.intro
         have M3 := True.intro
        case' L6n =>
         intro c106 H
         have c106b0 := geF c106
         clear c106
         have H' := Aside0.mk H
         clear H
         have M2 := True.intro
         have M4 := True.intro
       all_goals
        case _ =>
         have p103 : 0 ≤ (0 : Int) := (by omega)
         have q103 : 0 < a0.size := (by have : (0 : Int) < (a0.size : Int) := odA; omega)
         have hx103 : ∀ h : 0 < a0.size, ((a0[0]'h).toNat : Int) = bt a0 0 := bt_at a0 0
         clear p103
         have qi103 : (0 < (a0.size : Int)) = True := eq_true (odA)
         replace q103 := eq_true q103
         first
          | clear M1
            go_wp2
            go_meet
            case rel => exact ⟨_, (true), (endS), H', ⟨by first | omega | exact Nat.le_refl _⟩, ⟨blkZ⟩, ⟨bwA⟩⟩
          | clear M2
            have p105 : 0 ≤ (0 : Int) := (by omega)
            have q105 : 0 < a0.size := (by have : (0 : Int) < (a0.size : Int) := odA; omega)
            have hx105 : ∀ h : 0 < a0.size, ((a0[0]'h).toNat : Int) = bt a0 0 := bt_at a0 0
            clear p105
            have qi105 : (0 < (a0.size : Int)) = True := eq_true (odA)
            replace q105 := eq_true q105
            first
             | clear M3
               have p107 : 0 ≤ (0 : Int) := (by omega)
               have q107 : 0 < a0.size := (by have : (0 : Int) < (a0.size : Int) := odA; omega)
               have hx107 : ∀ h : 0 < a0.size, ((a0[0]'h).toNat : Int) = bt a0 0 := bt_at a0 0
               clear p107
               have qi107 : (0 < (a0.size : Int)) = True := eq_true (odA)
               replace q107 := eq_true q107
               go_wp2
               go_meet
               case rel => exact ⟨_, (decide ((bt a0 0) ≤ 57)), (endS), H', ⟨by first | omega | exact Nat.le_refl _⟩, ⟨blkZ⟩, ⟨bwA⟩⟩
             | clear M4
               go_wp2
               go_meet
               case rel => exact ⟨_, (false), (endS), H', ⟨by first | omega | exact Nat.le_refl _⟩, ⟨blkZ⟩, ⟨bwA⟩⟩
      case rest =>
       clear HC101
       try clear c1
       try clear p1
       try clear q1
       try clear hx1
       try clear qi1
       try clear c2
       try clear c2b0
       try clear c2b1
       try clear p2
       try clear c3
       try clear c3b0
       try clear c3b1
       try clear p4
       try clear q4
       try clear hx4
       try clear qi4
       try clear c5
       try clear c5b0
       try clear c5b1
       try clear c7
       try clear c10
       try clear p10
       try clear q10
       try clear hx10
       try clear qi10
       try clear c16
       try clear c23
       try clear c24
       try clear c25
       try clear hcz102_0
       try clear hcz102_1
       try clear hcz102_2
       try clear hcz103_0
       try clear hcz103_1
       try clear hcz103_2
       try clear hfz102_0
       try clear hfz102_1
       try clear hfz102_2
       try clear hfz103_0
       try clear hfz103_1
       try clear hfz103_2
       try clear p103
       try clear p105
       try clear p107
       try clear p4
       try clear q103
       try clear q105
       try clear q107
       try clear q4
       obtain ⟨kq, x26_100, rfl, HA, HJ100, BK150, HB⟩ := hcut
       cases kq with
       | zero => exact absurd HA.out (by simp [value_Scan.j0])
       | succ kj100 =>
        have H := HA.out
        clear HA
        simp only [value_Scan.j0] at H
        revert H; refine itR ?L7p ?L7n
        case' L7p =>
         intro c103 H
         subst c103
         replace H := bnA H
         obtain ⟨⟨t162, t163, t164, t165, t166⟩, A104, H⟩ := H
         dsimp only at H
         obtain ⟨rfl, rfl, rfl, rfl, rfl⟩ := sJ5 H
         try go_wp2_with (first | ((with_reducible refine gate_callee (f := 26) rfl ?_); refine goesA (some 41) Tryd.func26 #[.string a0] ?_; (with_reducible refine (value_integer.calls _ _ _ _ _ _ _ _ A104.out).mono ?_); rintro e w201 ⟨rfl, hb⟩; refine ⟨_, rfl, ?_⟩; replace BK150 := Aside0.mk (bkB BK150 hb); replace HB := Aside0.mk (below_step (bwA) hb); (try clear hb); obtain ⟨hcz202_0, hcz202_1, hcz202_2⟩ := cel3 BK150.out; obtain ⟨hfz202_0, hfz202_1, hfz202_2⟩ := frz3 BK150.out))
         refine bodyPost_ret (results_ctt rfl _ _ gb150 26 #[.int .i64 t162, .int .i64 t163, .string t164] (0, 0) _ rfl blkZ Tryd.underlying26 rfl (by kernel_rfl)) rfl ?_
         exact ⟨endA, bwA⟩
        case' L7n =>
         intro c103 H
         replace c103 := Bool.eq_false_iff.mpr c103
         subst c103
         replace H := bnA H
         obtain ⟨⟨t167, t168, t169, t170, t171⟩, A104, H⟩ := H
         dsimp only at H
         obtain ⟨rfl, rfl, rfl, rfl, rfl⟩ := sJ5 H
         try go_wp2_with (first | ((with_reducible refine gate_callee (f := 27) rfl ?_); refine goesA (some 46) Tryd.func27 #[.string a0] ?_; (with_reducible refine (value_boolean.calls _ _ _ _ _ _ _ _ ?side1 A104.out).mono ?_); (case side1 => exact Tabs.below HT.out (bwA)); rintro e w201 ⟨rfl, hb⟩; refine ⟨_, rfl, ?_⟩; replace BK150 := Aside0.mk (bkB BK150 hb); replace HB := Aside0.mk (below_step (bwA) hb); (try clear hb); obtain ⟨hcz202_0, hcz202_1, hcz202_2⟩ := cel3 BK150.out; obtain ⟨hfz202_0, hfz202_1, hfz202_2⟩ := frz3 BK150.out))
         refine bodyPost_ret (results_ctt rfl _ _ gb150 26 #[.int .i64 t167, .int .i64 t168, .string t169] (0, 0) _ rfl blkZ Tryd.underlying26 rfl (by kernel_rfl)) rfl ?_
         exact ⟨endA, bwA⟩
/-! ### value_Parse: function 11 -/
def value_Parse.f (k : Nat) (a0 : ByteArray) : Option (Int × Int × ByteArray × Int) := (value_Scan.f k a0).bind fun bt173 => (if bt173.2.2.2.2 = 0 then (if bt173.2.2.2.1.toList = ([] : List UInt8) then (some (bt173.1, bt173.2.1, bt173.2.2.1, 0)) else (some (0, 0, (⟨#[]⟩ : ByteArray), 3))) else (some (0, 0, (⟨#[]⟩ : ByteArray), bt173.2.2.2.2)))
theorem value_Parse.mono : ∀ a0 k, LeO (value_Parse.f k a0) (value_Parse.f (k + 1) a0) := by
 intro a0 k
 unfold value_Parse.f
 repeat' (with_reducible first | exact value_Scan.mono _ _ | exact LeO.refl _ | exact LeO.none _ | refine LeO.ite ?_ ?_ | refine LeO.bind ?_ (fun _ => ?_))
set_option maxHeartbeats 8000000 in
set_option maxRecDepth 100000 in
theorem value_Parse.calls (k : Nat) (a0 : ByteArray) (r1 : Int) (r2 : Int) (r3 : ByteArray) (r4 : Int) (w : World) (hT : Tabs w) (h : value_Parse.f k a0 = some (r1, r2, r3, r4)) :
  Calls Tryd.prog 11 #[.string a0] w fun e w' => e = .returned (.tuple #[.agg #[.int .i64 r1, .int .i64 r2, .string r3], .int .i64 r4]) ∧ Below w.heap.size w w' := by
 have hu26 := Tryd.underlying26
 have HB := Aside0.mk (Below.refl w.heap.size w)
 unfold value_Parse.f at h
 have H := h
 clear h
 have HT := Aside0.mk hT
 clear hT
 replace H := bnA H
 obtain ⟨⟨t173, t174, t175, t176, t177⟩, A2, H⟩ := H
 dsimp only at H
 revert H; refine itQ ?L3p ?L3n
 case' L3p =>
  rintro ⟨c3b0, c3b1⟩ H
  revert H; refine itQ ?L4p ?L4n
  case' L4p =>
   rintro ⟨c4b0, c4b1⟩ H
   obtain ⟨rfl, rfl, rfl, rfl⟩ := sJ4 H
   have M1 := True.intro
  case' L4n =>
   rintro ⟨c4b0, c4b1⟩ c4 H
   obtain ⟨rfl, rfl, rfl, rfl⟩ := sJ4 H
   have M2 := True.intro
 case' L3n =>
  rintro ⟨c3b0, c3b1⟩ c3 H
  obtain ⟨rfl, rfl, rfl, rfl⟩ := sJ4 H
  have M2 := True.intro
 all_goals
  case _ =>
   go_enter Tryd.func11, Tryd.ntmps11
   try go_wp2_with (first | ((with_reducible refine gate_dst (N := 2) rfl ?_); refine boxB 2 #[.int .i64 0, .int .i64 0, .string (⟨#[]⟩ : ByteArray)] 26 HB ?_; clear HB; intro gb172 w101 BK172 GW172 GE172 HB) | ((with_reducible refine gate_callee (f := 16) rfl ?_); refine goesA (some 9) Tryd.func16 #[.string a0] ?_; (with_reducible refine (value_Scan.calls _ _ _ _ _ _ _ _ ?side1 A2.out).mono ?_); (case side1 => exact Tabs.below HT.out (bwA)); rintro e w102 ⟨rfl, hb⟩; refine ⟨_, rfl, ?_⟩; replace BK172 := Aside0.mk (bkB BK172 hb); replace HB := Aside0.mk (below_step (bwA) hb); (try clear hb)) | ((with_reducible refine gate_dst (N := 4) rfl ?_); refine boxA 4 #[.int .i64 0, .int .i64 0, .string (⟨#[]⟩ : ByteArray)] 26 ?_; intro gb178 hg w103 hbox hb; have BK178 := Aside0.mk (hbox); have GW178 := Aside0.mk (hgW hg : w.heap.size ≤ gb178); have GE178 := Aside0.mk (hgW hg : w.heap.size ≤ gb178); have NB172_178 := Aside0.mk (hgL hg BK172 : gb172 ≠ gb178); have NB178_172 := Aside0.mk (hgG hg BK172 : gb178 ≠ gb172); replace BK172 := Aside0.mk (bkB BK172 hb); replace HB := Aside0.mk (below_step (bwA) hb); clear hb hbox hg; have hnb104 := NB178_172.out; have hnc104 := NB172_178.out; obtain ⟨hcz105_0, hcz105_1, hcz105_2⟩ := cel3 BK178.out; obtain ⟨hfz105_0, hfz105_1, hfz105_2⟩ := frz3 BK178.out; obtain ⟨hcz106_0, hcz106_1, hcz106_2⟩ := cel3 BK172.out; obtain ⟨hfz106_0, hfz106_1, hfz106_2⟩ := frz3 BK172.out))
   first
    | clear M1
      refine bodyPost_ret (results_ct rfl _ _ gb172 26 #[.int .i64 t173, .int .i64 t174, .string t175] (0, 0) _ rfl blkZ Tryd.underlying26 rfl (by kernel_rfl)) rfl ?_
      exact ⟨endA, bwA⟩
    | clear M2
      refine bodyPost_ret (results_ct rfl _ _ gb172 26 #[.int .i64 0, .int .i64 0, .string (⟨#[]⟩ : ByteArray)] (0, 0) _ rfl blkZ Tryd.underlying26 rfl (by kernel_rfl)) rfl ?_
      exact ⟨endA, bwA⟩
/-! ### utf8_ValidString: function 15, by hand -/
def utf8_ValidString.f (a0 : ByteArray) : Option Bool := if a0.size ≤ 9223372036854775807 then some (Lib.validD a0.data.toList) else none
theorem utf8_ValidString.calls (a0 : ByteArray) (r : Bool) (w : World) (hT : Tabs w) (h : utf8_ValidString.f a0 = some r) :
  Calls Tryd.prog 15 #[.string a0] w fun e w' => e = .returned (.bool r) ∧ Below w.heap.size w w' := by
 unfold utf8_ValidString.f at h
 split at h
 ·rename_i hs
  obtain rfl := Option.some.inj h
  exact Tryd.utf8_ValidString a0 w hs hT.u8
 ·cases h

/-! ### value_Check: function 10 -/
def value_Check.f (a0_0 : Int) (a0_1 : Int) (a0_2 : ByteArray) : Option (Bool) := if a0_0 = 1 then (if a0_1 ≥ (-9007199254740991) then (if a0_1 ≤ 9007199254740991 then (some (a0_2.toList == ([] : List UInt8))) else (some false)) else (some false)) else (if a0_0 = 2 then (if a0_1 = 0 then (if (a0_2.size : Int) ≤ 200 then ((utf8_ValidString.f a0_2).bind fun t180 => (some t180)) else (some false)) else (some false)) else (if a0_0 = 3 then (if a0_1 = 0 then (some (a0_2.toList == ([] : List UInt8))) else (if a0_1 = 1 then (some (a0_2.toList == ([] : List UInt8))) else (some false))) else (if a0_0 = 4 then (if a0_1 = 0 then (some (decide ((a0_2.size : Int) ≤ 200))) else (some false)) else (some false))))
set_option maxHeartbeats 8000000 in
set_option maxRecDepth 100000 in
theorem value_Check.calls (a0_0 : Int) (a0_1 : Int) (a0_2 : ByteArray) (r : Bool) (w : World) (hT : Tabs w) (h : value_Check.f a0_0 a0_1 a0_2 = some r) :
  Calls Tryd.prog 10 #[.agg #[.int .i64 a0_0, .int .i64 a0_1, .string a0_2]] w fun e w' => e = .returned (.bool r) ∧ Below w.heap.size w w' := by
 have hu26 := Tryd.underlying26
 have HB := Aside0.mk (Below.refl w.heap.size w)
 unfold value_Check.f at h
 have H := h
 clear h
 have HT := Aside0.mk hT
 clear hT
 revert H; refine itQ ?L3p ?L3n
 case' L3p =>
  rintro ⟨c2b0, c2b1⟩ H
  revert H; refine itR ?L4p ?L4n
  case' L4p =>
   intro c3 H
   have c3b0 := geT c3
   clear c3
   revert H; refine itR ?L5p ?L5n
   case' L5p =>
    intro c4 H
    have c4b0 := decide_eq_true c4
    clear c4
    obtain rfl := Option.some.inj H
    have M1 := True.intro
   case' L5n =>
    intro c4 H
    have c4b0 := decide_eq_false c4
    clear c4
    obtain rfl := Option.some.inj H
    have M1 := True.intro
  case' L4n =>
   intro c3 H
   have c3b0 := geF c3
   clear c3
   obtain rfl := Option.some.inj H
   have M1 := True.intro
 case' L3n =>
  rintro ⟨c2b0, c2b1⟩ c2 H
  revert H; refine itQ ?L6p ?L6n
  case' L6p =>
   rintro ⟨c3b0, c3b1⟩ H
   revert H; refine itQ ?L7p ?L7n
   case' L7p =>
    rintro ⟨c4b0, c4b1⟩ H
    revert H; refine itR ?L8p ?L8n
    case' L8p =>
     intro c5 H
     have c5b0 := decide_eq_true c5
     have c5b1 : decide (a0_2.size ≤ 200) = true := decide_eq_true (by omega)
     clear c5
     replace H := bnA H
     obtain ⟨t180, A6, H⟩ := H
     obtain rfl := Option.some.inj H
     have M2 := True.intro
    case' L8n =>
     intro c5 H
     have c5b0 := decide_eq_false c5
     have c5b1 : decide (a0_2.size ≤ 200) = false := decide_eq_false (by omega)
     clear c5
     obtain rfl := Option.some.inj H
     have M1 := True.intro
   case' L7n =>
    rintro ⟨c4b0, c4b1⟩ c4 H
    obtain rfl := Option.some.inj H
    have M1 := True.intro
  case' L6n =>
   rintro ⟨c3b0, c3b1⟩ c3 H
   revert H; refine itQ ?L9p ?L9n
   case' L9p =>
    rintro ⟨c4b0, c4b1⟩ H
    revert H; refine itQ ?L10p ?L10n
    case' L10p =>
     rintro ⟨c5b0, c5b1⟩ H
     obtain rfl := Option.some.inj H
     have M1 := True.intro
    case' L10n =>
     rintro ⟨c5b0, c5b1⟩ c5 H
     revert H; refine itQ ?L11p ?L11n
     case' L11p =>
      rintro ⟨c6b0, c6b1⟩ H
      obtain rfl := Option.some.inj H
      have M1 := True.intro
     case' L11n =>
      rintro ⟨c6b0, c6b1⟩ c6 H
      obtain rfl := Option.some.inj H
      have M1 := True.intro
   case' L9n =>
    rintro ⟨c4b0, c4b1⟩ c4 H
    revert H; refine itQ ?L12p ?L12n
    case' L12p =>
     rintro ⟨c5b0, c5b1⟩ H
     revert H; refine itQ ?L13p ?L13n
     case' L13p =>
      rintro ⟨c6b0, c6b1⟩ H
      obtain rfl := Option.some.inj H
      have M1 := True.intro
     case' L13n =>
      rintro ⟨c6b0, c6b1⟩ c6 H
      obtain rfl := Option.some.inj H
      have M1 := True.intro
    case' L12n =>
     rintro ⟨c5b0, c5b1⟩ c5 H
     obtain rfl := Option.some.inj H
     have M1 := True.intro
 all_goals
  case _ =>
   go_enter Tryd.func10, Tryd.ntmps10
   go_wp2_with (first | ((with_reducible refine gate_dst (N := 1) rfl ?_); (try (refine gate_guard (by rfl) ?_; dsimp only)); refine boxB 1 #[.int .i64 a0_0, .int .i64 a0_1, .string a0_2] 26 HB ?_; clear HB; intro gb179 w101 BK179 GW179 GE179 HB; obtain ⟨hcz102_0, hcz102_1, hcz102_2⟩ := cel3 BK179.out; obtain ⟨hfz102_0, hfz102_1, hfz102_2⟩ := frz3 BK179.out; apply stopA; (case other => exact True.intro)))
   case _ =>
    first
     | clear M1
       (try go_wp2_with (fail))
       go_ret
       exact ⟨endA, bwA⟩
     | clear M2
       try go_wp2_with (first | (go_at_call 15; (with_reducible refine (utf8_ValidString.calls _ _ _ ?side1 A6.out).mono ?_); (case side1 => exact Tabs.below HT.out (bwA)); rintro e w103 ⟨rfl, hb⟩; replace BK179 := Aside0.mk (bkB BK179 hb); replace HB := Aside0.mk (below_step (bwA) hb); (try clear hb)))
       go_ret
       exact ⟨endA, bwA⟩
/-! ### strconv_Itoa: function 17, by hand -/
def strconv_Itoa.f (a0 : Int) : Option ByteArray := if -9223372036854775808 ≤ a0 ∧ a0 ≤ 9223372036854775807 then some ⟨(Lib.itoa a0).toArray⟩ else none
theorem strconv_Itoa.calls (a0 : Int) (r : ByteArray) (w : World) (hT : Tabs w) (h : strconv_Itoa.f a0 = some r) :
  Calls Tryd.prog 17 #[.int .i64 a0] w fun e w' => e = .returned (.string r) ∧ Below w.heap.size w w' := by
 unfold strconv_Itoa.f at h
 split at h
 ·rename_i hs
  obtain rfl := Option.some.inj h
  refine (Tryd.strconv_Itoa a0 hs.1 hs.2 w hT.pow).mono ?_
  rintro e w' ⟨he, k, os, rfl⟩
  exact ⟨he, Lib.below_grow _ w (Nat.le_refl _) k os⟩
 ·cases h

end Go.Proofs.YtlejenoibblhnaaDoor.A
