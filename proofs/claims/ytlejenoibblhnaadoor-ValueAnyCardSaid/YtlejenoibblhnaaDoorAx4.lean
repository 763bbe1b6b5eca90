-- By drv.py, the session's own driver round the kit's print: the machine's side of the laws, function by function. Not trusted: Lean checks it.
import Derived.Test.YtlejenoibblhnaaDoorAx0
import Derived.Test.YtlejenoibblhnaaDoorAx3
namespace Go.Proofs.YtlejenoibblhnaaDoor.A
open Go.RowKit Go.Proofs.YtlejenoibblhnaaDoorW.PrintWords Go.Proofs.YtlejenoibblhnaaDoorW.PrintLast Go.Proofs.YtlejenoibblhnaaDoorW.PrintMore
attribute [local go_sem] max2_int min2_int max_two min_two max_three min_three max_four min_four   -- for this text's walks alone
set_option linter.unusedVariables false
set_option linter.unusedSimpArgs false

/-! ### value_escaped: function 50 -/
mutual
def value_escaped.j0 : Nat → ByteArray → Int → Bool → Option (Int × Int)
 | 0, _, _, _ => none
 | k + 1, x0, x9, x10 => if x10 = true then (if 0 < (x0.size : Int) then (some (wrap32 (bt x0 0), 1)) else (none)) else (if x9 = 110 then (some (10, 1)) else (if x9 = 116 then (some (9, 1)) else (if x9 = 114 then (some (13, 1)) else (if x9 = 117 then (if (x0.size : Int) > 1 then (if 1 < (x0.size : Int) then (value_escaped.j1 k x0 ((bt x0 1) == 123)) else (none)) else (value_escaped.j1 k x0 false)) else (some (0, 0))))))
def value_escaped.j1 : Nat → ByteArray → Bool → Option (Int × Int)
 | 0, _, _ => none
 | k + 1, x0, x31 => if x31 = true then (if 2 ≤ (x0.size : Int) then ((value_numbered.f k (x0.extract 2 x0.size)).bind fun bt105 => (if bt105.2 > 0 then (some (bt105.1, wrap64 (bt105.2 + 2))) else (some (bt105.1, bt105.2)))) else (none)) else (some (0, 0))
end
def value_escaped.f (k : Nat) (a0 : ByteArray) : Option (Int × Int) := if a0.toList = ([] : List UInt8) then (some (0, 0)) else (if 0 < (a0.size : Int) then (if (bt a0 0) = 34 then (value_escaped.j0 k a0 (bt a0 0) ((bt a0 0) == 34)) else (value_escaped.j0 k a0 (bt a0 0) ((bt a0 0) == 92))) else (none))
theorem value_escaped.mono_l : ∀ k, (∀ y0 y1 y2, LeO (value_escaped.j0 k y0 y1 y2) (value_escaped.j0 (k + 1) y0 y1 y2)) ∧ (∀ y0 y1, LeO (value_escaped.j1 k y0 y1) (value_escaped.j1 (k + 1) y0 y1))
 | 0 => ⟨fun _ _ _ r h => by simp [value_escaped.j0] at h, fun _ _ r h => by simp [value_escaped.j1] at h⟩
 | k + 1 => by
  obtain ⟨ih0, ih1⟩ := value_escaped.mono_l k
  refine ⟨?_, ?_⟩
  all_goals intros
  all_goals first | unfold value_escaped.j0 | unfold value_escaped.j1
  all_goals repeat' (with_reducible first | exact ih0 _ _ _ | exact ih1 _ _ | exact value_numbered.mono _ _ | exact LeO.refl _ | exact LeO.none _ | refine LeO.ite ?_ ?_ | refine LeO.bind ?_ (fun _ => ?_))
theorem value_escaped.mono : ∀ a0 k, LeO (value_escaped.f k a0) (value_escaped.f (k + 1) a0) := by
 intro a0 k
 obtain ⟨ih0, ih1⟩ := value_escaped.mono_l k
 unfold value_escaped.f
 repeat' (with_reducible first | exact ih0 _ _ _ | exact ih1 _ _ | exact value_numbered.mono _ _ | exact LeO.refl _ | exact LeO.none _ | refine LeO.ite ?_ ?_ | refine LeO.bind ?_ (fun _ => ?_))
set_option maxHeartbeats 8000000 in
set_option maxRecDepth 100000 in
theorem value_escaped.calls (k : Nat) (a0 : ByteArray) (r1 : Int) (r2 : Int) (w : World) (h : value_escaped.f k a0 = some (r1, r2)) :
  Calls Tryd.prog 50 #[.string a0] w fun e w' => e = .returned (.tuple #[.int .i32 r1, .int .i64 r2]) ∧ Drawn0 w w' := by
 unfold value_escaped.f at h
 have H := h
 clear h
 revert H; refine itQ ?L15p ?L15n
 case' L15p =>
  rintro ⟨c2b0, c2b1⟩ H
  obtain ⟨rfl, rfl⟩ := sJ2 H
  go_enter Tryd.func50, Tryd.ntmps50
  go_wp2
  go_ret2
  exact ⟨endS, drA⟩
 case' L15n =>
  rintro ⟨c2b0, c2b1⟩ c2 H
  replace H := itN H
  obtain ⟨c3, H⟩ := H
  have c3b0 := decide_eq_true c3
  have c3b1 : decide (0 < a0.size) = true := decide_eq_true (by omega)
  clear c3
  have HC101 := Aside0.mk H
  clear H
  have p4 : 0 ≤ (0 : Int) := (by omega)
  have q4 : 0 < a0.size := (by have : (0 : Int) < (a0.size : Int) := odA; omega)
  have hx4 : ∀ h : 0 < a0.size, ((a0[0]'h).toNat : Int) = bt a0 0 := bt_at a0 0
  clear p4
  have qi4 : (0 < (a0.size : Int)) = True := eq_true (odA)
  replace q4 := eq_true q4
  go_enter Tryd.func50, Tryd.ntmps50
  go_upto_if 10 with (fail)
  go_cut [10] (fun v10 wc => ∃ (kq : Nat) (x10_100 : Bool), v10 = .bool x10_100 ∧ Aside0 (value_escaped.j0 kq a0 (bt a0 0) x10_100 = some (r1, r2)) ∧ Aside0 (kq ≤ k) ∧ Drawn0 w wc)
  case first =>
   have H := HC101.out
   clear HC101
   revert H; refine itQ ?L18p ?L18n
   case' L18p =>
    rintro ⟨c102b0, c102b1⟩ H
    (first | rw [c102b0] | (simp only [i64_w, i32_w]; rw [c102b0]) | skip)
    have H' := Aside0.mk H
    clear H
    have M16 := True.intro
   case' L18n =>
    rintro ⟨c102b0, c102b1⟩ c102 H
    (first | rw [c102b0] | (simp only [i64_w, i32_w]; rw [c102b0]) | skip)
    have H' := Aside0.mk H
    clear H
    have M17 := True.intro
   all_goals
    case _ =>
     go_wp2
     go_meet
     first
      | clear M16
        case rel => exact ⟨_, (((bt a0 0) == 34)), (endS), H', ⟨by first | omega | exact Nat.le_refl _⟩, drA⟩
      | clear M17
        case rel => exact ⟨_, (((bt a0 0) == 92)), (endS), H', ⟨by first | omega | exact Nat.le_refl _⟩, drA⟩
  case rest =>
   clear HC101
   try clear c1
   try clear c2
   try clear c2b0
   try clear c2b1
   try clear p2
   try clear c3
   try clear c3b0
   try clear c3b1
   try clear p4
   try clear q4
   try clear hx4
   try clear qi4
   try clear c5
   try clear c10
   try clear c50
   try clear p4
   try clear q4
   obtain ⟨kq, x10_100, rfl, HA, HJ100, ⟨mc100, rfl⟩⟩ := hcut
   cases kq with
   | zero => exact absurd HA.out (by simp [value_escaped.j0])
   | succ kj100 =>
    have H := HA.out
    clear HA
    simp only [value_escaped.j0] at H
    revert H; refine itR ?L22p ?L22n
    case' L22p =>
     intro c102 H
     subst c102
     replace H := itN H
     obtain ⟨c103, H⟩ := H
     have c103b0 := decide_eq_true c103
     have c103b1 : decide (0 < a0.size) = true := decide_eq_true (by omega)
     clear c103
     obtain ⟨rfl, rfl⟩ := sJ2 H
     have p104 : 0 ≤ (0 : Int) := (by omega)
     have q104 : 0 < a0.size := (by have : (0 : Int) < (a0.size : Int) := odA; omega)
     have hx104 : ∀ h : 0 < a0.size, ((a0[0]'h).toNat : Int) = bt a0 0 := bt_at a0 0
     clear p104
     have qi104 : (0 < (a0.size : Int)) = True := eq_true (odA)
     replace q104 := eq_true q104
     go_wp2
     go_ret2
     exact ⟨endS, drA⟩
    case' L22n =>
     intro c102 H
     replace c102 := Bool.eq_false_iff.mpr c102
     subst c102
     revert H; refine itQ ?L23p ?L23n
     case' L23p =>
      rintro ⟨c103b0, c103b1⟩ H
      obtain ⟨rfl, rfl⟩ := sJ2 H
     case' L23n =>
      rintro ⟨c103b0, c103b1⟩ c103 H
      revert H; refine itQ ?L24p ?L24n
      case' L24p =>
       rintro ⟨c104b0, c104b1⟩ H
       obtain ⟨rfl, rfl⟩ := sJ2 H
      case' L24n =>
       rintro ⟨c104b0, c104b1⟩ c104 H
       revert H; refine itQ ?L25p ?L25n
       case' L25p =>
        rintro ⟨c105b0, c105b1⟩ H
        obtain ⟨rfl, rfl⟩ := sJ2 H
       case' L25n =>
        rintro ⟨c105b0, c105b1⟩ c105 H
        revert H; refine itQ ?L26p ?L26n
        case' L26p =>
         rintro ⟨c106b0, c106b1⟩ H
         have HC201 := Aside0.mk H
         clear H
         go_upto_region 14 with (fail)
         go_cut [31] (fun v31 wc => ∃ (kq : Nat) (x31_200 : Bool), v31 = .bool x31_200 ∧ Aside0 (value_escaped.j1 kq a0 x31_200 = some (r1, r2)) ∧ Aside0 (kq ≤ kj100) ∧ Drawn0 w wc)
         case first =>
          have H := HC201.out
          clear HC201
          revert H; refine itR ?L27p ?L27n
          case' L27p =>
           intro c202 H
           have c202b0 := gtT c202
           have c202b1 : decide (1 < a0.size) = true := decide_eq_true (by omega)
           clear c202
           (first | rw [c202b0] | (simp only [i64_w, i32_w]; rw [c202b0]) | skip)
           replace H := itN H
           obtain ⟨c203, H⟩ := H
           have c203b0 := decide_eq_true c203
           have c203b1 : decide (1 < a0.size) = true := decide_eq_true (by omega)
           clear c203
           have H' := Aside0.mk H
           clear H
           have p204 : 0 ≤ (1 : Int) := (by omega)
           have q204 : 1 < a0.size := (by have : (1 : Int) < (a0.size : Int) := odA; omega)
           have hx204 : ∀ h : 1 < a0.size, ((a0[1]'h).toNat : Int) = bt a0 1 := bt_at a0 1
           clear p204
           have qi204 : (1 < (a0.size : Int)) = True := eq_true (odA)
           replace q204 := eq_true q204
           go_wp2
           go_meet
           case rel => exact ⟨_, (((bt a0 1) == 123)), (endS), H', ⟨by have := HJ100.out; first | omega | exact Nat.le_refl _⟩, drA⟩
          case' L27n =>
           intro c202 H
           have c202b0 := gtF c202
           have c202b1 : decide (1 < a0.size) = false := decide_eq_false (by omega)
           clear c202
           (first | rw [c202b0] | (simp only [i64_w, i32_w]; rw [c202b0]) | skip)
           have H' := Aside0.mk H
           clear H
           go_wp2
           go_meet
           case rel => exact ⟨_, (false), (endS), H', ⟨by have := HJ100.out; first | omega | exact Nat.le_refl _⟩, drA⟩
         case rest =>
          clear HC201
          try clear c1
          try clear p1
          try clear q1
          try clear hx1
          try clear qi1
          try clear c2
          try clear c2b0
          try clear c2b1
          try clear p2
          try clear q2
          try clear hx2
          try clear qi2
          try clear c3
          try clear c3b0
          try clear c3b1
          try clear p3
          try clear p4
          try clear q4
          try clear hx4
          try clear qi4
          try clear c5
          try clear c10
          try clear p10
          try clear q10
          try clear hx10
          try clear qi10
          try clear c20
          try clear p20
          try clear q20
          try clear hx20
          try clear qi20
          try clear p32
          try clear c50
          try clear c100
          try clear c102
          try clear c102b0
          try clear c102b1
          try clear c103
          try clear c103b0
          try clear c103b1
          try clear c104
          try clear c104b0
          try clear c104b1
          try clear p104
          try clear q104
          try clear hx104
          try clear qi104
          try clear c105
          try clear c105b0
          try clear c105b1
          try clear c106
          try clear c106b0
          try clear c106b1
          try clear p104
          try clear p2
          try clear p204
          try clear p4
          try clear q104
          try clear q204
          try clear q4
          obtain ⟨kq, x31_200, rfl, HA, HJ200, ⟨mc200, rfl⟩⟩ := hcut
          cases kq with
          | zero => exact absurd HA.out (by simp [value_escaped.j1])
          | succ kj200 =>
           have H := HA.out
           clear HA
           simp only [value_escaped.j1] at H
           revert H; refine itR ?L28p ?L28n
           case' L28p =>
            intro c202 H
            subst c202
            replace H := itN H
            obtain ⟨c203, H⟩ := H
            have c203b0 := eq_true c203
            have c203b1 := decide_eq_true c203
            clear c203
            replace H := bnA H
            obtain ⟨⟨t105, t106⟩, A204, H⟩ := H
            dsimp only at H
            revert H; refine itR ?L29p ?L29n
            case' L29p =>
             intro c205 H
             have c205b0 := gtT c205
             clear c205
             obtain ⟨rfl, rfl⟩ := sJ2 H
            case' L29n =>
             intro c205 H
             have c205b0 := gtF c205
             clear c205
             obtain ⟨rfl, rfl⟩ := sJ2 H
           case' L28n =>
            intro c202 H
            replace c202 := Bool.eq_false_iff.mpr c202
            subst c202
            obtain ⟨rfl, rfl⟩ := sJ2 H
            go_wp2
            go_ret2
            exact ⟨endS, drA⟩
           all_goals
            case _ =>
             try go_wp2_with (first | ((with_reducible refine gate_callee (f := 64) rfl ?_); refine goesA (some 35) Tryd.func64 #[.string (a0.extract 2 a0.size)] ?_; (with_reducible refine (value_numbered.calls _ _ _ _ _ A204.out).mono ?_); rintro e w' ⟨rfl, ⟨nd, rfl⟩⟩; refine ⟨_, rfl, ?_⟩))
             go_ret2
             exact ⟨endS, drA⟩
        case' L26n =>
         rintro ⟨c106b0, c106b1⟩ c106 H
         obtain ⟨rfl, rfl⟩ := sJ2 H
    all_goals
     case _ =>
      go_wp2
      go_ret2
      exact ⟨endS, drA⟩
end Go.Proofs.YtlejenoibblhnaaDoor.A
