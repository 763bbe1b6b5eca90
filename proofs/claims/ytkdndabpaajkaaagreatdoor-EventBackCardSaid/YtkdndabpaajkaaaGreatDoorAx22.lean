-- By drv.py, the session's own driver round the kit's print: the machine's side of the laws, function by function. Not trusted: Lean checks it.
import Derived.Test.YtkdndabpaajkaaaGreatDoorAx0
import Derived.Test.YtkdndabpaajkaaaGreatDoorAx16
import Derived.Test.YtkdndabpaajkaaaGreatDoorAx18
import Derived.Test.YtkdndabpaajkaaaGreatDoorAx19
import Derived.Test.YtkdndabpaajkaaaGreatDoorAx20
import Derived.Test.YtkdndabpaajkaaaGreatDoorAx21
namespace Go.Proofs.YtkdndabpaajkaaaGreatDoor.A
open Go.RowKit Go.Proofs.YtkdndabpaajkaaaGreatDoorW.PrintWords Go.Proofs.YtkdndabpaajkaaaGreatDoorW.PrintLast Go.Proofs.YtkdndabpaajkaaaGreatDoorW.PrintMore
attribute [local go_sem] max2_int min2_int max_two min_two max_three min_three max_four min_four   -- for this text's walks alone
set_option linter.unusedVariables false
set_option linter.unusedSimpArgs false

/-! ### value_Scan: function 194 -/
def value_Scan.j0 : Nat → ByteArray → Bool → Option (Int × Int × ByteArray × ByteArray × Int)
 | 0, _, _ => none
 | k + 1, x0, x26 => if x26 = true then ((value_integer.f k x0).bind fun bt247 => (some (bt247.1, bt247.2.1, bt247.2.2.1, bt247.2.2.2.1, bt247.2.2.2.2))) else ((value_boolean.f k x0).bind fun bt252 => (some (bt252.1, bt252.2.1, bt252.2.2.1, bt252.2.2.2.1, bt252.2.2.2.2)))
def value_Scan.f (k : Nat) (a0 : ByteArray) : Option (Int × Int × ByteArray × ByteArray × Int) := if a0.toList = ([] : List UInt8) then (some (0, 0, (⟨#[]⟩ : ByteArray), (⟨#[]⟩ : ByteArray), 3)) else (if 0 < (a0.size : Int) then (if (bt a0 0) = 34 then ((value_text.f k a0).bind fun bt236 => (some (bt236.1, bt236.2.1, bt236.2.2.1, bt236.2.2.2.1, bt236.2.2.2.2))) else ((strings_HasPrefix.f a0 (⟨#[120, 39]⟩ : ByteArray)).bind fun t241 => (if t241 = true then ((value_bytes.f k a0).bind fun bt242 => (some (bt242.1, bt242.2.1, bt242.2.2.1, bt242.2.2.2.1, bt242.2.2.2.2))) else (if (bt a0 0) = 45 then (value_Scan.j0 k a0 true) else (if (bt a0 0) ≥ 48 then (value_Scan.j0 k a0 (decide ((bt a0 0) ≤ 57))) else (value_Scan.j0 k a0 false)))))) else (none))
theorem value_Scan.mono_l : ∀ k, (∀ y0 y1, LeO (value_Scan.j0 k y0 y1) (value_Scan.j0 (k + 1) y0 y1))
 | 0 => fun _ _ r h => by simp [value_Scan.j0] at h
 | k + 1 => by
  have ih0 := value_Scan.mono_l k
  ·intro y0 y1
   unfold value_Scan.j0
   repeat' (with_reducible first | exact ih0 _ _ | exact value_boolean.mono _ _ | exact value_bytes.mono _ _ | exact value_integer.mono _ _ | exact value_text.mono _ _ | exact LeO.refl _ | exact LeO.none _ | refine LeO.ite ?_ ?_ | refine LeO.bind ?_ (fun _ => ?_))
theorem value_Scan.mono : ∀ a0 k, LeO (value_Scan.f k a0) (value_Scan.f (k + 1) a0) := by
 intro a0 k
 have ih0 := value_Scan.mono_l k
 unfold value_Scan.f
 repeat' (with_reducible first | exact ih0 _ _ | exact value_boolean.mono _ _ | exact value_bytes.mono _ _ | exact value_integer.mono _ _ | exact value_text.mono _ _ | exact LeO.refl _ | exact LeO.none _ | refine LeO.ite ?_ ?_ | refine LeO.bind ?_ (fun _ => ?_))
set_option maxHeartbeats 8000000 in
set_option maxRecDepth 100000 in
theorem value_Scan.calls (k : Nat) (a0 : ByteArray) (r1 : Int) (r2 : Int) (r3 : ByteArray) (r4 : ByteArray) (r5 : Int) (w : World) (hT : Tabs w) (h : value_Scan.f k a0 = some (r1, r2, r3, r4, r5)) :
  Calls Tryz.prog 194 #[.string a0] w fun e w' => e = .returned (.tuple #[.agg #[.int .i64 r1, .int .i64 r2, .string r3], .string r4, .int .i64 r5]) ∧ Below w.heap.size w w' := by
 have hu74 := Tryz.underlying74
 have HB := Aside0.mk (Below.refl w.heap.size w)
 unfold value_Scan.f at h
 have H := h
 clear h
 have HT := Aside0.mk hT
 clear hT
 revert H; refine itR ?L14p ?L14n
 case' L14p =>
  intro c2 H
  obtain ⟨c2b0, c2b1⟩ := fcE c2
  clear c2
  simp only [Option.some.injEq, Prod.mk.injEq] at H
  obtain ⟨rfl, rfl, rfl, rfl, rfl⟩ := H
  have M8 := True.intro
  have M9 := True.intro
 case' L14n =>
  intro c2 H
  obtain ⟨c2b0, c2b1⟩ := fcN c2
  replace H := itN H
  obtain ⟨c3, H⟩ := H
  have c3b0 := decide_eq_true c3
  have c3b1 : decide (0 < a0.size) = true := decide_eq_true (by omega)
  clear c3
  revert H; refine itR ?L15p ?L15n
  case' L15p =>
   intro c5 H
   obtain ⟨c5b0, c5b1⟩ := fcE c5
   clear c5
   replace H := bnA H
   obtain ⟨⟨t236, t237, t238, t239, t240⟩, A6, H⟩ := H
   dsimp only at H
   simp only [Option.some.injEq, Prod.mk.injEq] at H
   obtain ⟨rfl, rfl, rfl, rfl, rfl⟩ := H
   have M8 := True.intro
   have M10 := True.intro
   have M11 := True.intro
  case' L15n =>
   intro c5 H
   obtain ⟨c5b0, c5b1⟩ := fcN c5
   replace H := bnA H
   obtain ⟨t241, A6, H⟩ := H
   revert H; refine itR ?L16p ?L16n
   case' L16p =>
    intro c7 H
    subst c7
    replace H := bnA H
    obtain ⟨⟨t242, t243, t244, t245, t246⟩, A8, H⟩ := H
    dsimp only at H
    simp only [Option.some.injEq, Prod.mk.injEq] at H
    obtain ⟨rfl, rfl, rfl, rfl, rfl⟩ := H
    have M8 := True.intro
    have M10 := True.intro
    have M12 := True.intro
   case' L16n =>
    intro c7 H
    replace c7 := Bool.eq_false_iff.mpr c7
    subst c7
    have HC101 := Aside0.mk H
    clear H
    have M13 := True.intro
 all_goals
  case _ =>
   go_enter Tryz.func194, Tryz.ntmps194
   first
    | clear M8
      go_wp2_with (first | ((with_reducible refine gate_dst (N := 2) rfl ?_); refine boxA 2 #[.int .i64 0, .int .i64 0, .string (⟨#[]⟩ : ByteArray)] 74 ?_; intro gb235 hg w101 hbox hb; have BK235 := Aside0.mk (hbox); have GW235 := Aside0.mk (hgW hg : w.heap.size ≤ gb235); have GE235 := Aside0.mk (hgW hg : w.heap.size ≤ gb235); replace HB := Aside0.mk (below_step (bwA) hb); clear hb hbox hg; apply stopA; (case other => exact True.intro)))
      case _ =>
       first
        | clear M9
          have hcz102_0 := celA BK235.out 0 (.int .i64 0)
          have hcz102_1 := celA BK235.out 1 (.int .i64 0)
          have hcz102_2 := celA BK235.out 2 (.string (⟨#[]⟩ : ByteArray))
          have hfz102_0 := blk_frozen BK235.out 0
          have hfz102_1 := blk_frozen BK235.out 1
          have hfz102_2 := blk_frozen BK235.out 2
          (try go_wp2_with (fail))
          refine bodyPost_ret (results_ctt rfl _ _ gb235 74 #[.int .i64 0, .int .i64 0, .string (⟨#[]⟩ : ByteArray)] (0, 0) _ rfl (by refine blkP (cs := #[.int .i64 0, .int .i64 0, .string (⟨#[]⟩ : ByteArray)]) ?_ 2 _; refine blkP (cs := #[.int .i64 0, .int .i64 0, .string (⟨#[]⟩ : ByteArray)]) ?_ 1 _; refine blkP (cs := #[.int .i64 0, .int .i64 0, .string (⟨#[]⟩ : ByteArray)]) ?_ 0 _; (with_reducible repeat (first | refine blk_drewN ?_ _ | refine blk_drew ?_ | refine blk_alloc ?_ _)); exact BK235.out) Tryz.underlying74 rfl (by kernel_rfl)) rfl ?_
          exact ⟨endA, bwA⟩
        | clear M10
          have p4 : 0 ≤ (0 : Int) := (by omega)
          have q4 : 0 < a0.size := (by have : (0 : Int) < (a0.size : Int) := odA; omega)
          have hx4 : ∀ h : 0 < a0.size, ((a0[0]'h).toNat : Int) = bt a0 0 := bt_at a0 0
          clear p4
          have qi4 : (0 < (a0.size : Int)) = True := eq_true (odA)
          replace q4 := eq_true q4
          first
           | clear M11
             try go_wp2_with (first | ((with_reducible refine gate_callee (f := 232) rfl ?_); refine goesA (some 14) Tryz.func232 #[.string a0] ?_; (with_reducible refine (value_text.calls _ _ _ _ _ _ _ _ ?side1 A6.out).mono ?_); (case side1 => exact Tabs.below HT.out (bwA)); rintro e w102 ⟨rfl, hb⟩; refine ⟨_, rfl, ?_⟩; replace BK235 := Aside0.mk (bkB BK235 hb); replace HB := Aside0.mk (below_step (bwA) hb); (try clear hb); have hcz103_0 := celA BK235.out 0 (.int .i64 0); have hcz103_1 := celA BK235.out 1 (.int .i64 0); have hcz103_2 := celA BK235.out 2 (.string (⟨#[]⟩ : ByteArray)); have hfz103_0 := blk_frozen BK235.out 0; have hfz103_1 := blk_frozen BK235.out 1; have hfz103_2 := blk_frozen BK235.out 2))
             refine bodyPost_ret (results_ctt rfl _ _ gb235 74 #[.int .i64 t236, .int .i64 t237, .string t238] (0, 0) _ rfl (by refine blkP (cs := #[.int .i64 t236, .int .i64 t237, .string (⟨#[]⟩ : ByteArray)]) ?_ 2 _; refine blkP (cs := #[.int .i64 t236, .int .i64 0, .string (⟨#[]⟩ : ByteArray)]) ?_ 1 _; refine blkP (cs := #[.int .i64 0, .int .i64 0, .string (⟨#[]⟩ : ByteArray)]) ?_ 0 _; (with_reducible repeat (first | refine blk_drewN ?_ _ | refine blk_drew ?_ | refine blk_alloc ?_ _)); exact BK235.out) Tryz.underlying74 rfl (by kernel_rfl)) rfl ?_
             exact ⟨endA, bwA⟩
           | clear M12
             try go_wp2_with (first | ((with_reducible refine gate_callee (f := 233) rfl ?_); refine goesA (some 20) Tryz.func233 #[.string a0, .string (⟨#[120, 39]⟩ : ByteArray)] ?_; (with_reducible refine (strings_HasPrefix.calls _ _ _ _ A6.out).mono ?_); rintro e w' ⟨rfl, ⟨nd, rfl⟩⟩; refine ⟨_, rfl, ?_⟩; (try (rw [drewN_self w101]; generalize hq_ : World.drewN w101 _ = w101; have n0_ : Aside0 (w101.heap[gb235]? = some (.cells #[.int .i64 0, .int .i64 0, .string (⟨#[]⟩ : ByteArray)] 74 (0, 0))) := ⟨by rw [← hq_]; exact blkA⟩; have n1_ : Aside0 (Below w.heap.size w w101) := ⟨by rw [← hq_]; exact (bwA)⟩; clear BK235 HB hq_; have BK235 := n0_; have HB := n1_; clear n0_ n1_))) | ((with_reducible refine gate_callee (f := 234) rfl ?_); refine goesA (some 22) Tryz.func234 #[.string a0] ?_; (with_reducible refine (value_bytes.calls _ _ _ _ _ _ _ _ A8.out).mono ?_); rintro e w102 ⟨rfl, hb⟩; refine ⟨_, rfl, ?_⟩; replace BK235 := Aside0.mk (bkB BK235 hb); replace HB := Aside0.mk (below_step (bwA) hb); (try clear hb); have hcz103_0 := celA BK235.out 0 (.int .i64 0); have hcz103_1 := celA BK235.out 1 (.int .i64 0); have hcz103_2 := celA BK235.out 2 (.string (⟨#[]⟩ : ByteArray)); have hfz103_0 := blk_frozen BK235.out 0; have hfz103_1 := blk_frozen BK235.out 1; have hfz103_2 := blk_frozen BK235.out 2))
             refine bodyPost_ret (results_ctt rfl _ _ gb235 74 #[.int .i64 t242, .int .i64 t243, .string t244] (0, 0) _ rfl (by refine blkP (cs := #[.int .i64 t242, .int .i64 t243, .string (⟨#[]⟩ : ByteArray)]) ?_ 2 _; refine blkP (cs := #[.int .i64 t242, .int .i64 0, .string (⟨#[]⟩ : ByteArray)]) ?_ 1 _; refine blkP (cs := #[.int .i64 0, .int .i64 0, .string (⟨#[]⟩ : ByteArray)]) ?_ 0 _; (with_reducible repeat (first | refine blk_drewN ?_ _ | refine blk_drew ?_ | refine blk_alloc ?_ _)); exact BK235.out) Tryz.underlying74 rfl (by kernel_rfl)) rfl ?_
             exact ⟨endA, bwA⟩
    | clear M13
      go_upto_region 7 with (first | ((with_reducible refine gate_dst (N := 2) rfl ?_); refine boxA 2 #[.int .i64 0, .int .i64 0, .string (⟨#[]⟩ : ByteArray)] 74 ?_; intro gb235 hg w102 hbox hb; have n0_ := Aside0.mk (below_step (bwA) hb); have n1_ := Aside0.mk (hbox); have n2_ := Aside0.mk (hgW hg : w.heap.size ≤ gb235); have n3_ := Aside0.mk (hgW hg : w.heap.size ≤ gb235); clear HB; have HB := n0_; have BK235 := n1_; have GW235 := n2_; have GE235 := n3_; clear n0_ n1_ n2_ n3_; clear hb hbox hg; have p4 : 0 ≤ (0 : Int) := (by omega); have q4 : 0 < a0.size := (by have : (0 : Int) < (a0.size : Int) := odA; omega); have hx4 : ∀ h : 0 < a0.size, ((a0[0]'h).toNat : Int) = bt a0 0 := bt_at a0 0; clear p4; have qi4 : (0 < (a0.size : Int)) = True := eq_true (odA); replace q4 := eq_true q4) | ((with_reducible refine gate_callee (f := 233) rfl ?_); refine goesA (some 20) Tryz.func233 #[.string a0, .string (⟨#[120, 39]⟩ : ByteArray)] ?_; (with_reducible refine (strings_HasPrefix.calls _ _ _ _ A6.out).mono ?_); rintro e w' ⟨rfl, ⟨nd, rfl⟩⟩; refine ⟨_, rfl, ?_⟩))
      (try simp only [Act.put, List.setIfInBounds_toArray, List.set_cons_zero, List.set_cons_succ])
      go_cut [26] (fun v26 wc => ∃ (kq : Nat) (x26_100 : Bool), v26 = .bool x26_100 ∧ Aside0 (value_Scan.j0 kq a0 x26_100 = some (r1, r2, r3, r4, r5)) ∧ Aside0 (kq ≤ k) ∧ Aside0 (wc.heap[gb235]? = some (.cells #[.int .i64 0, .int .i64 0, .string (⟨#[]⟩ : ByteArray)] 74 (0, 0))) ∧ Aside0 (Below w.heap.size w wc))
      case first =>
       have H := HC101.out
       clear HC101
       revert H; refine itR ?L5p ?L5n
       case' L5p =>
        intro c104 H
        obtain ⟨c104b0, c104b1⟩ := fcE c104
        clear c104
        (first | rw [c104b0] | (simp only [i64_w, i32_w]; rw [c104b0]) | skip)
        have H' := Aside0.mk H
        clear H
        have M1 := True.intro
       case' L5n =>
        intro c104 H
        obtain ⟨c104b0, c104b1⟩ := fcN c104
        (first | rw [c104b0] | (simp only [i64_w, i32_w]; rw [c104b0]) | skip)
        revert H; refine itR ?L6p ?L6n
        case' L6p =>
         intro c106 H
         have c106b0 := geT c106
         clear c106
         have H' := Aside0.mk H
         clear H
         have M2 := True.intro
         have M3 := True.intro
        case' L6n =>
         intro c106 H
         have c106b0 := geF c106
         clear c106
         have H' := Aside0.mk H
         clear H
         have M2 := True.intro
         have M4 := True.intro
       all_goals
        case _ =>
         have p103 : 0 ≤ (0 : Int) := (by omega)
         have q103 : 0 < a0.size := (by have : (0 : Int) < (a0.size : Int) := odA; omega)
         have hx103 : ∀ h : 0 < a0.size, ((a0[0]'h).toNat : Int) = bt a0 0 := bt_at a0 0
         clear p103
         have qi103 : (0 < (a0.size : Int)) = True := eq_true (odA)
         replace q103 := eq_true q103
         first
          | clear M1
            go_wp2
            go_meet
            case rel => exact ⟨_, (true), (endS), H', ⟨by first | omega | exact Nat.le_refl _⟩, ⟨by (with_reducible repeat (first | refine blk_drewN ?_ _ | refine blk_drew ?_ | refine blk_alloc ?_ _)); exact BK235.out⟩, ⟨bwA⟩⟩
          | clear M2
            have p105 : 0 ≤ (0 : Int) := (by omega)
            have q105 : 0 < a0.size := (by have : (0 : Int) < (a0.size : Int) := odA; omega)
            have hx105 : ∀ h : 0 < a0.size, ((a0[0]'h).toNat : Int) = bt a0 0 := bt_at a0 0
            clear p105
            have qi105 : (0 < (a0.size : Int)) = True := eq_true (odA)
            replace q105 := eq_true q105
            first
             | clear M3
               have p107 : 0 ≤ (0 : Int) := (by omega)
               have q107 : 0 < a0.size := (by have : (0 : Int) < (a0.size : Int) := odA; omega)
               have hx107 : ∀ h : 0 < a0.size, ((a0[0]'h).toNat : Int) = bt a0 0 := bt_at a0 0
               clear p107
               have qi107 : (0 < (a0.size : Int)) = True := eq_true (odA)
               replace q107 := eq_true q107
               go_wp2
               go_meet
               case rel => exact ⟨_, (decide ((bt a0 0) ≤ 57)), (endS), H', ⟨by first | omega | exact Nat.le_refl _⟩, ⟨by (with_reducible repeat (first | refine blk_drewN ?_ _ | refine blk_drew ?_ | refine blk_alloc ?_ _)); exact BK235.out⟩, ⟨bwA⟩⟩
             | clear M4
               go_wp2
               go_meet
               case rel => exact ⟨_, (false), (endS), H', ⟨by first | omega | exact Nat.le_refl _⟩, ⟨by (with_reducible repeat (first | refine blk_drewN ?_ _ | refine blk_drew ?_ | refine blk_alloc ?_ _)); exact BK235.out⟩, ⟨bwA⟩⟩
      case rest =>
       clear HC101
       try clear c1
       try clear p1
       try clear q1
       try clear hx1
       try clear qi1
       try clear c2
       try clear c2b0
       try clear c2b1
       try clear p2
       try clear c3
       try clear c3b0
       try clear c3b1
       try clear p4
       try clear q4
       try clear hx4
       try clear qi4
       try clear c5
       try clear c5b0
       try clear c5b1
       try clear c7
       try clear c10
       try clear p10
       try clear q10
       try clear hx10
       try clear qi10
       try clear c19
       try clear c23
       try clear hcz102_0
       try clear hcz102_1
       try clear hcz102_2
       try clear hcz103_0
       try clear hcz103_1
       try clear hcz103_2
       try clear hfz102_0
       try clear hfz102_1
       try clear hfz102_2
       try clear hfz103_0
       try clear hfz103_1
       try clear hfz103_2
       try clear p103
       try clear p105
       try clear p107
       try clear p4
       try clear q103
       try clear q105
       try clear q107
       try clear q4
       obtain ⟨kq, x26_100, rfl, HA, HJ100, BK235, HB⟩ := hcut
       cases kq with
       | zero => exact absurd HA.out (by simp [value_Scan.j0])
       | succ kj100 =>
        have H := HA.out
        clear HA
        simp only [value_Scan.j0] at H
        revert H; refine itR ?L7p ?L7n
        case' L7p =>
         intro c103 H
         subst c103
         replace H := bnA H
         obtain ⟨⟨t247, t248, t249, t250, t251⟩, A104, H⟩ := H
         dsimp only at H
         simp only [Option.some.injEq, Prod.mk.injEq] at H
         obtain ⟨rfl, rfl, rfl, rfl, rfl⟩ := H
         try go_wp2_with (first | ((with_reducible refine gate_callee (f := 235) rfl ?_); refine goesA (some 41) Tryz.func235 #[.string a0] ?_; (with_reducible refine (value_integer.calls _ _ _ _ _ _ _ _ A104.out).mono ?_); rintro e w201 ⟨rfl, hb⟩; refine ⟨_, rfl, ?_⟩; replace BK235 := Aside0.mk (bkB BK235 hb); replace HB := Aside0.mk (below_step (bwA) hb); (try clear hb); have hcz202_0 := celA BK235.out 0 (.int .i64 0); have hcz202_1 := celA BK235.out 1 (.int .i64 0); have hcz202_2 := celA BK235.out 2 (.string (⟨#[]⟩ : ByteArray)); have hfz202_0 := blk_frozen BK235.out 0; have hfz202_1 := blk_frozen BK235.out 1; have hfz202_2 := blk_frozen BK235.out 2))
         refine bodyPost_ret (results_ctt rfl _ _ gb235 74 #[.int .i64 t247, .int .i64 t248, .string t249] (0, 0) _ rfl (by refine blkP (cs := #[.int .i64 t247, .int .i64 t248, .string (⟨#[]⟩ : ByteArray)]) ?_ 2 _; refine blkP (cs := #[.int .i64 t247, .int .i64 0, .string (⟨#[]⟩ : ByteArray)]) ?_ 1 _; refine blkP (cs := #[.int .i64 0, .int .i64 0, .string (⟨#[]⟩ : ByteArray)]) ?_ 0 _; (with_reducible repeat (first | refine blk_drewN ?_ _ | refine blk_drew ?_ | refine blk_alloc ?_ _)); exact BK235.out) Tryz.underlying74 rfl (by kernel_rfl)) rfl ?_
         exact ⟨endA, bwA⟩
        case' L7n =>
         intro c103 H
         replace c103 := Bool.eq_false_iff.mpr c103
         subst c103
         replace H := bnA H
         obtain ⟨⟨t252, t253, t254, t255, t256⟩, A104, H⟩ := H
         dsimp only at H
         simp only [Option.some.injEq, Prod.mk.injEq] at H
         obtain ⟨rfl, rfl, rfl, rfl, rfl⟩ := H
         try go_wp2_with (first | ((with_reducible refine gate_callee (f := 236) rfl ?_); refine goesA (some 46) Tryz.func236 #[.string a0] ?_; (with_reducible refine (value_boolean.calls _ _ _ _ _ _ _ _ ?side1 A104.out).mono ?_); (case side1 => exact Tabs.below HT.out (bwA)); rintro e w201 ⟨rfl, hb⟩; refine ⟨_, rfl, ?_⟩; replace BK235 := Aside0.mk (bkB BK235 hb); replace HB := Aside0.mk (below_step (bwA) hb); (try clear hb); have hcz202_0 := celA BK235.out 0 (.int .i64 0); have hcz202_1 := celA BK235.out 1 (.int .i64 0); have hcz202_2 := celA BK235.out 2 (.string (⟨#[]⟩ : ByteArray)); have hfz202_0 := blk_frozen BK235.out 0; have hfz202_1 := blk_frozen BK235.out 1; have hfz202_2 := blk_frozen BK235.out 2))
         refine bodyPost_ret (results_ctt rfl _ _ gb235 74 #[.int .i64 t252, .int .i64 t253, .string t254] (0, 0) _ rfl (by refine blkP (cs := #[.int .i64 t252, .int .i64 t253, .string (⟨#[]⟩ : ByteArray)]) ?_ 2 _; refine blkP (cs := #[.int .i64 t252, .int .i64 0, .string (⟨#[]⟩ : ByteArray)]) ?_ 1 _; refine blkP (cs := #[.int .i64 0, .int .i64 0, .string (⟨#[]⟩ : ByteArray)]) ?_ 0 _; (with_reducible repeat (first | refine blk_drewN ?_ _ | refine blk_drew ?_ | refine blk_alloc ?_ _)); exact BK235.out) Tryz.underlying74 rfl (by kernel_rfl)) rfl ?_
         exact ⟨endA, bwA⟩
end Go.Proofs.YtkdndabpaajkaaaGreatDoor.A
