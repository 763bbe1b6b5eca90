import Derived.Test.YtkdndabpaajkaaaGreatDoorAx0
import Derived.Test.YtkdndabpaajkaaaGreatDoorAx12
namespace Go.Proofs.YtkdndabpaajkaaaGreatDoor.A
open Go.RowKit Go.Proofs.YtkdndabpaajkaaaGreatDoorW.PrintWords Go.Proofs.YtkdndabpaajkaaaGreatDoorW.PrintLast Go.Proofs.YtkdndabpaajkaaaGreatDoorW.PrintMore
attribute [local go_sem] max2_int min2_int max_two min_two max_three min_three max_four min_four   -- for this text's walks alone
set_option linter.unusedVariables false
set_option linter.unusedSimpArgs false
set_option maxHeartbeats 8000000
set_option maxRecDepth 100000
mutual
def R02_Letter.j0 : Nat → Int → Bool → Option (Bool)
 | 0, _, _ => none
 | k + 1, x0, x16 => if x16 = true then (some true) else (if x0 ≥ 192 then (R02_Letter.j1 k x0 (decide (x0 ≤ 591))) else (R02_Letter.j1 k x0 false))
def R02_Letter.j1 : Nat → Int → Bool → Option (Bool)
 | 0, _, _ => none
 | k + 1, x0, x22 => if x22 = true then (if x0 = 215 then (some false) else (some (x0 != 247))) else (if x0 ≥ 913 then (if x0 ≤ 937 then (some (x0 != 930)) else (if x0 ≥ 945 then (if x0 ≤ 969 then (some true) else (if x0 ≥ 1040 then (if x0 ≤ 1103 then (some true) else (if x0 ≥ 19968 then (some (decide (x0 ≤ 40959))) else (some false))) else (if x0 ≥ 19968 then (some (decide (x0 ≤ 40959))) else (some false)))) else (if x0 ≥ 1040 then (if x0 ≤ 1103 then (some true) else (if x0 ≥ 19968 then (some (decide (x0 ≤ 40959))) else (some false))) else (if x0 ≥ 19968 then (some (decide (x0 ≤ 40959))) else (some false))))) else (if x0 ≥ 945 then (if x0 ≤ 969 then (some true) else (if x0 ≥ 1040 then (if x0 ≤ 1103 then (some true) else (if x0 ≥ 19968 then (some (decide (x0 ≤ 40959))) else (some false))) else (if x0 ≥ 19968 then (some (decide (x0 ≤ 40959))) else (some false)))) else (if x0 ≥ 1040 then (if x0 ≤ 1103 then (some true) else (if x0 ≥ 19968 then (some (decide (x0 ≤ 40959))) else (some false))) else (if x0 ≥ 19968 then (some (decide (x0 ≤ 40959))) else (some false)))))
end
def R02_Letter.f (k : Nat) (a0 : Int) : Option (Bool) := if a0 ≥ 65 then (if a0 ≤ 90 then (R02_Letter.j0 k a0 true) else (if a0 ≥ 97 then (R02_Letter.j0 k a0 (decide (a0 ≤ 122))) else (R02_Letter.j0 k a0 false))) else (if a0 ≥ 97 then (R02_Letter.j0 k a0 (decide (a0 ≤ 122))) else (R02_Letter.j0 k a0 false))
theorem R02_Letter.mono_l : ∀ k, (∀ y0 y1, LeO (R02_Letter.j0 k y0 y1) (R02_Letter.j0 (k + 1) y0 y1)) ∧ (∀ y0 y1, LeO (R02_Letter.j1 k y0 y1) (R02_Letter.j1 (k + 1) y0 y1))
 | 0 => ⟨fun _ _ r h => by simp [R02_Letter.j0] at h, fun _ _ r h => by simp [R02_Letter.j1] at h⟩
 | k + 1 => by
  obtain ⟨ih0, ih1⟩ := R02_Letter.mono_l k; refine ⟨?_, ?_⟩
  all_goals intros
  all_goals first | unfold R02_Letter.j0 | unfold R02_Letter.j1
  all_goals repeat' (with_reducible first | exact ih0 _ _ | exact ih1 _ _ | exact LeO.refl _ | exact LeO.none _ | refine LeO.ite ?_ ?_ | refine LeO.bind ?_ (fun _ => ?_))
theorem R02_Letter.mono : ∀ a0 k, LeO (R02_Letter.f k a0) (R02_Letter.f (k + 1) a0) := by
 intro a0 k; obtain ⟨ih0, ih1⟩ := R02_Letter.mono_l k; unfold R02_Letter.f
 repeat' (with_reducible first | exact ih0 _ _ | exact ih1 _ _ | exact LeO.refl _ | exact LeO.none _ | refine LeO.ite ?_ ?_ | refine LeO.bind ?_ (fun _ => ?_))
theorem R02_Letter.calls (k : Nat) (a0 : Int) (r : Bool) (w : World) (h : R02_Letter.f k a0 = some r) :
  Calls Tryz.prog 202 #[.int .i64 a0] w fun e w' => e = .returned (.bool r) ∧ Drawn0 w w' := by
 unfold R02_Letter.f at h; have H := h; clear h; have HC101 := aM H; clear H; go_enter Tryz.func202, Tryz.ntmps202; go_upto_region 1 with (fail); go_cut [16] (fun v16 wc => ∃ (kq : Nat) (x16_100 : Bool), v16 = .bool x16_100 ∧ Aside0 (R02_Letter.j0 kq a0 x16_100 = some r) ∧ Aside0 (kq ≤ k) ∧ Drawn0 w wc)
 case first =>
  have H := HC101.out; clear HC101; revert H; refine itR ?L4p ?L4n
  case' L4p =>
   intro c102 H; have c102b0 := geT c102; clear c102
   (first | rw [c102b0] | (simp only [i64_w, i32_w]; rw [c102b0]) | skip)
   revert H; refine itR ?L5p ?L5n
   case' L5p =>
    intro c103 H; have c103b0 := dT c103; clear c103; have H' := aM H; clear H; have M1 := trivial
   case' L5n =>
    intro c103 H; have c103b0 := dF c103; clear c103; revert H; refine itR ?L6p ?L6n
    case' L6p =>
     intro c104 H; have c104b0 := geT c104; clear c104; have H' := aM H; clear H; have M2 := trivial
    case' L6n =>
     intro c104 H; have c104b0 := geF c104; clear c104; have H' := aM H; clear H; have M3 := trivial
  case' L4n =>
   intro c102 H; have c102b0 := geF c102; clear c102
   (first | rw [c102b0] | (simp only [i64_w, i32_w]; rw [c102b0]) | skip)
   revert H; refine itR ?L7p ?L7n
   case' L7p =>
    intro c103 H; have c103b0 := geT c103; clear c103; have H' := aM H; clear H; have M2 := trivial
   case' L7n =>
    intro c103 H; have c103b0 := geF c103; clear c103; have H' := aM H; clear H; have M3 := trivial
  all_goals
   case _ =>
    go_wp2
    go_meet
    first
     | clear M1
       case rel => exact ⟨_, (true), (endS), H', ⟨by first | omega | exact Nat.le_refl _⟩, drA⟩
     | clear M2
       case rel => exact ⟨_, (decide (a0 ≤ 122)), (endS), H', ⟨by first | omega | exact Nat.le_refl _⟩, drA⟩
     | clear M3
       case rel => exact ⟨_, (false), (endS), H', ⟨by first | omega | exact Nat.le_refl _⟩, drA⟩
 case rest =>
  clear HC101; (try clear c1); (try clear c2); (try clear p2); (try clear c10); (try clear c20); obtain ⟨kq, x16_100, rfl, HA, HJ100, ⟨mc100, rfl⟩⟩ := hcut
  cases kq with
  | zero => exact absurd HA.out (by simp [R02_Letter.j0])
  | succ kj100 =>
   have H := HA.out; clear HA; simp only [R02_Letter.j0] at H; revert H; refine itR ?L35p ?L35n
   case' L35p =>
    intro c102 H; subst c102; obtain rfl := sI H; go_wp2; go_ret; exact ⟨endS, drA⟩
   case' L35n =>
    intro c102 H; replace c102 := Bool.eq_false_iff.mpr c102; subst c102; have HC201 := aM H; clear H; go_upto_region 3 with (fail); go_cut [22] (fun v22 wc => ∃ (kq : Nat) (x22_200 : Bool), v22 = .bool x22_200 ∧ Aside0 (R02_Letter.j1 kq a0 x22_200 = some r) ∧ Aside0 (kq ≤ kj100) ∧ Drawn0 w wc)
    case first =>
     have H := HC201.out; clear HC201; revert H; refine itR ?L38p ?L38n
     case' L38p =>
      intro c202 H; have c202b0 := geT c202; clear c202
      (first | rw [c202b0] | (simp only [i64_w, i32_w]; rw [c202b0]) | skip)
      have H' := aM H; clear H; have M36 := trivial
     case' L38n =>
      intro c202 H; have c202b0 := geF c202; clear c202
      (first | rw [c202b0] | (simp only [i64_w, i32_w]; rw [c202b0]) | skip)
      have H' := aM H; clear H; have M37 := trivial
     all_goals
      case _ =>
       go_wp2
       go_meet
       first
        | clear M36
          case rel => exact ⟨_, (decide (a0 ≤ 591)), (endS), H', ⟨by have := HJ100.out; first | omega | exact Nat.le_refl _⟩, drA⟩
        | clear M37
          case rel => exact ⟨_, (false), (endS), H', ⟨by have := HJ100.out; first | omega | exact Nat.le_refl _⟩, drA⟩
    case rest =>
     clear HC201; (try clear c1); (try clear c2); (try clear p2); (try clear c10); (try clear c20); (try clear c100); (try clear c102); (try clear c102b0); (try clear c103); (try clear c103b0); (try clear c104); (try clear c104b0); (try clear p2); obtain ⟨kq, x22_200, rfl, HA, HJ200, ⟨mc200, rfl⟩⟩ := hcut
     cases kq with
     | zero => exact absurd HA.out (by simp [R02_Letter.j1])
     | succ kj200 =>
      have H := HA.out; clear HA; simp only [R02_Letter.j1] at H; revert H; refine itR ?L39p ?L39n
      case' L39p =>
       intro c202 H; subst c202; revert H; refine itQ ?L40p ?L40n
       case' L40p =>
        rintro ⟨c203b0, c203b1⟩ H; obtain rfl := sI H
       case' L40n =>
        rintro ⟨c203b0, c203b1⟩ c203 H; obtain rfl := sI H
      case' L39n =>
       intro c202 H; replace c202 := Bool.eq_false_iff.mpr c202; subst c202; revert H; refine itR ?L41p ?L41n
       case' L41p =>
        intro c203 H; have c203b0 := geT c203; clear c203; revert H; refine itR ?L42p ?L42n
        case' L42p =>
         intro c204 H; have c204b0 := dT c204; clear c204; obtain rfl := sI H
        case' L42n =>
         intro c204 H; have c204b0 := dF c204; clear c204; revert H; refine itR ?L43p ?L43n
         case' L43p =>
          intro c205 H; have c205b0 := geT c205; clear c205; revert H; refine itR ?L44p ?L44n
          case' L44p =>
           intro c206 H; have c206b0 := dT c206; clear c206; obtain rfl := sI H
          case' L44n =>
           intro c206 H; have c206b0 := dF c206; clear c206; revert H; refine itR ?L45p ?L45n
           case' L45p =>
            intro c207 H; have c207b0 := geT c207; clear c207; revert H; refine itR ?L46p ?L46n
            case' L46p =>
             intro c208 H; have c208b0 := dT c208; clear c208; obtain rfl := sI H
            case' L46n =>
             intro c208 H; have c208b0 := dF c208; clear c208; revert H; refine itR ?L47p ?L47n
             case' L47p =>
              intro c209 H; have c209b0 := geT c209; clear c209; obtain rfl := sI H
             case' L47n =>
              intro c209 H; have c209b0 := geF c209; clear c209; obtain rfl := sI H
           case' L45n =>
            intro c207 H; have c207b0 := geF c207; clear c207; revert H; refine itR ?L48p ?L48n
            case' L48p =>
             intro c208 H; have c208b0 := geT c208; clear c208; obtain rfl := sI H
            case' L48n =>
             intro c208 H; have c208b0 := geF c208; clear c208; obtain rfl := sI H
         case' L43n =>
          intro c205 H; have c205b0 := geF c205; clear c205; revert H; refine itR ?L49p ?L49n
          case' L49p =>
           intro c206 H; have c206b0 := geT c206; clear c206; revert H; refine itR ?L50p ?L50n
           case' L50p =>
            intro c207 H; have c207b0 := dT c207; clear c207; obtain rfl := sI H
           case' L50n =>
            intro c207 H; have c207b0 := dF c207; clear c207; revert H; refine itR ?L51p ?L51n
            case' L51p =>
             intro c208 H; have c208b0 := geT c208; clear c208; obtain rfl := sI H
            case' L51n =>
             intro c208 H; have c208b0 := geF c208; clear c208; obtain rfl := sI H
          case' L49n =>
           intro c206 H; have c206b0 := geF c206; clear c206; revert H; refine itR ?L52p ?L52n
           case' L52p =>
            intro c207 H; have c207b0 := geT c207; clear c207; obtain rfl := sI H
           case' L52n =>
            intro c207 H; have c207b0 := geF c207; clear c207; obtain rfl := sI H
       case' L41n =>
        intro c203 H; have c203b0 := geF c203; clear c203; revert H; refine itR ?L53p ?L53n
        case' L53p =>
         intro c204 H; have c204b0 := geT c204; clear c204; revert H; refine itR ?L54p ?L54n
         case' L54p =>
          intro c205 H; have c205b0 := dT c205; clear c205; obtain rfl := sI H
         case' L54n =>
          intro c205 H; have c205b0 := dF c205; clear c205; revert H; refine itR ?L55p ?L55n
          case' L55p =>
           intro c206 H; have c206b0 := geT c206; clear c206; revert H; refine itR ?L56p ?L56n
           case' L56p =>
            intro c207 H; have c207b0 := dT c207; clear c207; obtain rfl := sI H
           case' L56n =>
            intro c207 H; have c207b0 := dF c207; clear c207; revert H; refine itR ?L57p ?L57n
            case' L57p =>
             intro c208 H; have c208b0 := geT c208; clear c208; obtain rfl := sI H
            case' L57n =>
             intro c208 H; have c208b0 := geF c208; clear c208; obtain rfl := sI H
          case' L55n =>
           intro c206 H; have c206b0 := geF c206; clear c206; revert H; refine itR ?L58p ?L58n
           case' L58p =>
            intro c207 H; have c207b0 := geT c207; clear c207; obtain rfl := sI H
           case' L58n =>
            intro c207 H; have c207b0 := geF c207; clear c207; obtain rfl := sI H
        case' L53n =>
         intro c204 H; have c204b0 := geF c204; clear c204; revert H; refine itR ?L59p ?L59n
         case' L59p =>
          intro c205 H; have c205b0 := geT c205; clear c205; revert H; refine itR ?L60p ?L60n
          case' L60p =>
           intro c206 H; have c206b0 := dT c206; clear c206; obtain rfl := sI H
          case' L60n =>
           intro c206 H; have c206b0 := dF c206; clear c206; revert H; refine itR ?L61p ?L61n
           case' L61p =>
            intro c207 H; have c207b0 := geT c207; clear c207; obtain rfl := sI H
           case' L61n =>
            intro c207 H; have c207b0 := geF c207; clear c207; obtain rfl := sI H
         case' L59n =>
          intro c205 H; have c205b0 := geF c205; clear c205; revert H; refine itR ?L62p ?L62n
          case' L62p =>
           intro c206 H; have c206b0 := geT c206; clear c206; obtain rfl := sI H
          case' L62n =>
           intro c206 H; have c206b0 := geF c206; clear c206; obtain rfl := sI H
      all_goals
       case _ =>
        go_wp2; go_ret; exact ⟨endS, drA⟩
def R02_part.l0 : Nat → List Int → Int → Option (Bool)
 | 0, _, _ => none
 | k + 1, x0, x3 => if x3 < (x0.length : Int) then (if 0 ≤ x3 then ((R02_Letter.f k (rd x0 x3)).bind fun t344 => (if t344 = true then (R02_part.l0 k x0 (wrap64 (x3 + 1))) else (if (rd x0 x3) = 95 then (R02_part.l0 k x0 (wrap64 (x3 + 1))) else (if x3 = 0 then (some false) else (if (rd x0 x3) = 45 then (R02_part.l0 k x0 (wrap64 (x3 + 1))) else (if (rd x0 x3) < 48 then (some false) else (if (rd x0 x3) > 57 then (some false) else (R02_part.l0 k x0 (wrap64 (x3 + 1)))))))))) else (none)) else (some (decide ((x0.length : Int) > 0)))
def R02_part.f (k : Nat) (l0 : List Int) : Option (Bool) := R02_part.l0 k l0 0
theorem R02_part.mono_l : ∀ k, (∀ y0 y1, LeO (R02_part.l0 k y0 y1) (R02_part.l0 (k + 1) y0 y1))
 | 0 => fun _ _ r h => by simp [R02_part.l0] at h
 | k + 1 => by
  have ih0 := R02_part.mono_l k
  ·intro y0 y1
   unfold R02_part.l0
   repeat' (with_reducible first | exact ih0 _ _ | exact R02_Letter.mono _ _ | exact LeO.refl _ | exact LeO.none _ | refine LeO.ite ?_ ?_ | refine LeO.bind ?_ (fun _ => ?_))
theorem R02_part.mono : ∀ a0 k, LeO (R02_part.f k a0) (R02_part.f (k + 1) a0) := by
 intro a0 k; have ih0 := R02_part.mono_l k; unfold R02_part.f
 repeat' (with_reducible first | exact ih0 _ _ | exact R02_Letter.mono _ _ | exact LeO.refl _ | exact LeO.none _ | refine LeO.ite ?_ ?_ | refine LeO.bind ?_ (fun _ => ?_))
theorem R02_part.calls (k : Nat) (A0 : Option Addr) (c0 : Nat) (l0 : List Int) (r : Bool) (w : World) (hr0 : Kd.C (Kd.int .i64) w A0 l0.length l0) (hc0 : l0.length ≤ c0) (h : R02_part.f k l0 = some r) :
  Calls Tryz.prog 144 #[.slice A0 l0.length c0] w fun e w' => e = .returned (.bool r) ∧ Drawn0 w w' := by
 have HR0 := aM hr0; have HC0 := aM hc0; clear hr0 hc0; unfold R02_part.f at h; have H := h; clear h; have H' := aM H; clear H; go_enter Tryz.func144, Tryz.ntmps144; go_wp2
 go_loopg [3] k (fun kq v3 w' => ∃ (x3_1 : Int), v3 = .int .i64 x3_1 ∧ Aside0 (R02_part.l0 kq l0 x3_1 = some r) ∧ Aside0 (kq ≤ k) ∧ Drawn0 w w')
 case atStart => exact ⟨(0), (endS), H', ⟨Nat.le_refl _⟩, drA⟩
 case round =>
  clear H'; (try clear c1); (try clear p2); (try clear c14); obtain ⟨x3_1, rfl, HA, HK1, ⟨m1, rfl⟩⟩ := hrel
  cases gk with
  | zero => exact absurd HA.out (by simp [R02_part.l0])
  | succ k1 =>
   have H := HA.out; clear HA; simp only [R02_part.l0] at H; revert H; refine itR ?L3p ?L3n
   case' L3p =>
    intro c101 H; have c101b0 := dT c101; clear c101; replace H := itN H; obtain ⟨c102, H⟩ := H; have c102b0 := dT c102; clear c102; replace H := bnA H; obtain ⟨t344, A103, H⟩ := H; revert H; refine itR ?L4p ?L4n
    case' L4p =>
     intro c104 H; subst c104; have H' := aM H; clear H; have M1 := trivial
    case' L4n =>
     intro c104 H; replace c104 := Bool.eq_false_iff.mpr c104; subst c104; revert H; refine itQ ?L5p ?L5n
     case' L5p =>
      rintro ⟨c105b0, c105b1⟩ H; have H' := aM H; clear H; have M1 := trivial
     case' L5n =>
      rintro ⟨c105b0, c105b1⟩ c105 H; revert H; refine itQ ?L6p ?L6n
      case' L6p =>
       rintro ⟨c106b0, c106b1⟩ H; obtain rfl := sI H; have M2 := trivial
      case' L6n =>
       rintro ⟨c106b0, c106b1⟩ c106 H; revert H; refine itQ ?L7p ?L7n
       case' L7p =>
        rintro ⟨c107b0, c107b1⟩ H; have H' := aM H; clear H; have M1 := trivial
       case' L7n =>
        rintro ⟨c107b0, c107b1⟩ c107 H; revert H; refine itR ?L8p ?L8n
        case' L8p =>
         intro c108 H; have c108b0 := dT c108; clear c108; obtain rfl := sI H; have M2 := trivial
        case' L8n =>
         intro c108 H; have c108b0 := dF c108; clear c108; revert H; refine itR ?L9p ?L9n
         case' L9p =>
          intro c109 H; have c109b0 := gtT c109; clear c109; obtain rfl := sI H; have M2 := trivial
         case' L9n =>
          intro c109 H; have c109b0 := gtF c109; clear c109; have H' := aM H; clear H; have M1 := trivial
   case' L3n =>
    intro c101 H; have c101b0 := dF c101; clear c101; obtain rfl := sI H; go_wp2; go_ret; exact ⟨endS, drA⟩
   all_goals
    case _ =>
     have p343 : 0 ≤ (x3_1 : Int) := odA; have q343 : x3_1 < (l0.length : Int) := odA; obtain ⟨ad343, e343, hx343_0⟩ := Kd.at_int HR0.out x3_1 p343 q343
     cases e343
     replace p343 := eq_true p343; replace q343 := eq_true q343; try go_wp2_with (first | ((with_reducible refine gate_callee (f := 202) rfl ?_); refine goesA (some 16) Tryz.func202 #[.int .i64 (rd l0 x3_1)] ?_; (with_reducible refine (R02_Letter.calls _ _ _ _ A103.out).mono ?_); rintro e w' ⟨rfl, ⟨nd, rfl⟩⟩; refine ⟨_, rfl, ?_⟩))
     first
      | clear M1
        go_roundg k1
        case measure => have := HK1.out; omega
        case rel => exact ⟨(wrap64 (x3_1 + 1)), (endS), H', ⟨by have := HK1.out; omega⟩, drA⟩
      | clear M2
        go_ret; exact ⟨endS, drA⟩
mutual
def R02_Check.j0 : Nat → ByteArray → Bool → Option (Int)
 | 0, _, _ => none
 | k + 1, x0, x12 => if x12 = true then (some 3) else ((R02_Runes.f k x0).bind fun t346 => ((R02_Split.f k t346).bind fun t349 => (R02_Check.l0 k t346 t349 0)))
def R02_Check.l0 : Nat → List Int → List (List Int) → Int → Option (Int)
 | 0, _, _, _ => none
 | k + 1, x3, x4, x5 => if x5 < (x4.length : Int) then (if 0 ≤ x5 then ((R02_part.f k (rd_L13 x4 x5)).bind fun t353 => (if t353 = true then (R02_Check.l0 k x3 x4 (wrap64 (x5 + 1))) else (some 3))) else (none)) else (if (x3.length : Int) > 40 then (some 2) else (if (x4.length : Int) > 5 then (some 2) else (some 0)))
end
def R02_Check.f (k : Nat) (a0 : ByteArray) : Option (Int) := if a0.toList = ([] : List UInt8) then (R02_Check.j0 k a0 true) else ((R02_Valid.f k a0).bind fun t345 => (R02_Check.j0 k a0 (!t345)))
theorem R02_Check.mono_l : ∀ k, (∀ y0 y1, LeO (R02_Check.j0 k y0 y1) (R02_Check.j0 (k + 1) y0 y1)) ∧ (∀ y0 y1 y2, LeO (R02_Check.l0 k y0 y1 y2) (R02_Check.l0 (k + 1) y0 y1 y2))
 | 0 => ⟨fun _ _ r h => by simp [R02_Check.j0] at h, fun _ _ _ r h => by simp [R02_Check.l0] at h⟩
 | k + 1 => by
  obtain ⟨ih0, ih1⟩ := R02_Check.mono_l k; refine ⟨?_, ?_⟩
  all_goals intros
  all_goals first | unfold R02_Check.j0 | unfold R02_Check.l0
  all_goals repeat' (with_reducible first | exact ih0 _ _ | exact ih1 _ _ _ | exact R02_Runes.mono _ _ | exact R02_Split.mono _ _ | exact R02_Valid.mono _ _ | exact R02_part.mono _ _ | exact LeO.refl _ | exact LeO.none _ | refine LeO.ite ?_ ?_ | refine LeO.bind ?_ (fun _ => ?_))
theorem R02_Check.mono : ∀ a0 k, LeO (R02_Check.f k a0) (R02_Check.f (k + 1) a0) := by
 intro a0 k; obtain ⟨ih0, ih1⟩ := R02_Check.mono_l k; unfold R02_Check.f
 repeat' (with_reducible first | exact ih0 _ _ | exact ih1 _ _ _ | exact R02_Runes.mono _ _ | exact R02_Split.mono _ _ | exact R02_Valid.mono _ _ | exact R02_part.mono _ _ | exact LeO.refl _ | exact LeO.none _ | refine LeO.ite ?_ ?_ | refine LeO.bind ?_ (fun _ => ?_))
theorem R02_Check.calls (k : Nat) (a0 : ByteArray) (r : Int) (w : World) (h : R02_Check.f k a0 = some r) :
  Calls Tryz.prog 70 #[.string a0] w fun e w' => e = .returned (.int .i64 r) ∧ Below w.heap.size w w' := by
 have HB := aM (Below.refl w.heap.size w); unfold R02_Check.f at h; have H := h; clear h; have HC101 := aM H; clear H; go_enter Tryz.func70, Tryz.ntmps70; go_upto_region 1 with (fail); go_cut [12] (fun v12 wc => ∃ (kq : Nat) (x12_100 : Bool), v12 = .bool x12_100 ∧ Aside0 (R02_Check.j0 kq a0 x12_100 = some r) ∧ Aside0 (kq ≤ k) ∧ Aside0 (Below w.heap.size w wc))
 case first =>
  have H := HC101.out; clear HC101; revert H; refine itQ ?L1p ?L1n
  case' L1p =>
   rintro ⟨c102b0, c102b1⟩ H
   (first | rw [c102b0] | (simp only [i64_w, i32_w]; rw [c102b0]) | skip)
   have H' := aM H; clear H; go_wp2
   go_meet
   case rel => exact ⟨_, (true), (endS), H', ⟨by first | omega | exact Nat.le_refl _⟩, ⟨bwA⟩⟩
  case' L1n =>
   rintro ⟨c102b0, c102b1⟩ c102 H
   (first | rw [c102b0] | (simp only [i64_w, i32_w]; rw [c102b0]) | skip)
   replace H := bnA H; obtain ⟨t345, A103, H⟩ := H; have H' := aM H; clear H; try go_wp2_with (first | (go_at_call 141; (with_reducible refine (R02_Valid.calls _ _ _ _ A103.out).mono ?_); rintro e w201 ⟨rfl, hb⟩; replace HB := aM (below_step (bwA) hb); (try clear hb)))
   go_meet
   case rel => exact ⟨_, (!t345), (endS), H', ⟨by first | omega | exact Nat.le_refl _⟩, ⟨bwA⟩⟩
 case rest =>
  clear HC101; (try clear c1); (try clear p2); (try clear c7); (try clear c10); (try clear c70); obtain ⟨kq, x12_100, rfl, HA, HJ100, HB⟩ := hcut
  cases kq with
  | zero => exact absurd HA.out (by simp [R02_Check.j0])
  | succ kj100 =>
   have H := HA.out; clear HA; simp only [R02_Check.j0] at H; revert H; refine itR ?L10p ?L10n
   case' L10p =>
    intro c102 H; subst c102; obtain rfl := sI H; go_wp2; go_ret; exact ⟨endA, bwA⟩
   case' L10n =>
    intro c102 H; replace c102 := Bool.eq_false_iff.mpr c102; subst c102; replace H := bnA H; obtain ⟨t346, A103, H⟩ := H; replace H := bnA H; obtain ⟨t349, A104, H⟩ := H; have H' := aM H; clear H; try go_wp2_with (first | ((with_reducible refine gate_callee (f := 142) rfl ?_); refine goesA (some 14) Tryz.func142 #[.string a0] ?_; (with_reducible refine (R02_Runes.calls _ _ _ _ A103.out).mono ?_); rintro e w201 ⟨v347, rfl, ho0, hb⟩; refine ⟨_, rfl, ?_⟩; have HO348 := aM (Kd.R_lower ho0 (below_size (bwA))); replace HB := aM (below_step (bwA) hb); (try clear hb); (try clear ho0); obtain ⟨Ao202, co202, eo202⟩ := Kd.R_slice HO348.out; subst eo202) | ((with_reducible refine gate_callee (f := 143) rfl ?_); refine goesA (some 16) Tryz.func143 #[.slice Ao202 t346.length co202] ?_; (with_reducible refine (R02_Split.calls _ _ _ _ _ _ ?side1 ?side2 A104.out).mono ?_); (case side1 => repeat (first | exact (Kd.R_reads' HO348.out).2.2 | (with_reducible refine Kd.C_alloc ?_ _) | (with_reducible refine Kd.C_drewN ?_ _) | (with_reducible refine Kd.C_drew ?_))); (case side2 => exact (Kd.R_reads' HO348.out).2.1); rintro e w203 ⟨v350, rfl, ho0, hb⟩; refine ⟨_, rfl, ?_⟩; have HO351 := aM (Kd.S_lower (Kd.S_new' ho0 (Kd.R_lt (raA HO348.out))) (below_size (bwA))); replace HO348 := aM (Kd.R_below (raA HO348.out) hb); replace HB := aM (below_step (bwA) hb); (try clear hb); (try clear ho0)))
    go_loopg [5] kj100 (fun kq v5 w' => ∃ (x5_2 : Int), v5 = .int .i64 x5_2 ∧ Aside0 (R02_Check.l0 kq t346 t349 x5_2 = some r) ∧ Aside0 (kq ≤ kj100) ∧ Aside0 (Kd.R (Kd.int .i64) 3 w' w.heap.size (fun _ => True) (.slice Ao202 t346.length co202) t346) ∧ Aside0 (Kd.S (Kd.slice 3 (Kd.int .i64)) 146 w' w.heap.size (fun k_ => some k_ ≠ ((.slice Ao202 t346.length co202) : Value).ownBlock) v350 t349) ∧ Aside0 (Below w.heap.size w w'))
    case atStart => exact ⟨(0), (endS), H', ⟨Nat.le_refl _⟩, ⟨by (with_reducible repeat (first | apply Kd.R_alloc | apply Kd.R_drewN | apply Kd.R_drew)); exact HO348.out⟩, ⟨by (with_reducible repeat (first | apply Kd.S_alloc | apply Kd.S_drewN | apply Kd.S_drew)); exact Kd.S_mono HO351.out (fun _ hk => hk.2)⟩, ⟨bwA⟩⟩
    case round =>
     clear H'; (try clear c1); (try clear p2); (try clear c7); (try clear c10); (try clear c14); (try clear c70); (try clear c102); (try clear c102b0); (try clear c102b1); (try clear c142); (try clear c143); (try clear p2); obtain ⟨x5_2, rfl, HA, HK2, HO_3, HO_4, HB⟩ := hrel
     cases gk with
     | zero => exact absurd HA.out (by simp [R02_Check.l0])
     | succ k2 =>
      have H := HA.out; clear HA; simp only [R02_Check.l0] at H; revert H; refine itR ?L15p ?L15n
      case' L15p =>
       intro c204 H; have c204b0 := dT c204; clear c204; replace H := itN H; obtain ⟨c205, H⟩ := H; have c205b0 := dT c205; clear c205; replace H := bnA H; obtain ⟨t353, A206, H⟩ := H; revert H; refine itR ?L16p ?L16n
       case' L16p =>
        intro c207 H; subst c207; have H' := aM H; clear H; have M11 := trivial; have M12 := trivial
       case' L16n =>
        intro c207 H; replace c207 := Bool.eq_false_iff.mpr c207; subst c207; obtain rfl := sI H; have M11 := trivial; have M13 := trivial
      case' L15n =>
       intro c204 H; have c204b0 := dF c204; clear c204; revert H; refine itR ?L17p ?L17n
       case' L17p =>
        intro c205 H; have c205b0 := gtT c205; have c205b1 : decide (40 < t346.length) = true := dT (by omega); clear c205; obtain rfl := sI H; have M14 := trivial
       case' L17n =>
        intro c205 H; have c205b0 := gtF c205; have c205b1 : decide (40 < t346.length) = false := dF (by omega); clear c205; revert H; refine itR ?L18p ?L18n
        case' L18p =>
         intro c206 H; have c206b0 := gtT c206; have c206b1 : decide (5 < t349.length) = true := dT (by omega); clear c206; obtain rfl := sI H; have M14 := trivial
        case' L18n =>
         intro c206 H; have c206b0 := gtF c206; have c206b1 : decide (5 < t349.length) = false := dF (by omega); clear c206; obtain rfl := sI H; have M14 := trivial
      all_goals
       case _ =>
        obtain ⟨Ao301, co301, eo301⟩ := Kd.S_slice HO_4.out; subst eo301
        first
         | clear M11
           have p352 : 0 ≤ (x5_2 : Int) := odA; have q352 : x5_2 < (t349.length : Int) := odA; obtain ⟨ad352, A352_0, c352_0, e352, hx352_0, hl352_0, hi352_0⟩ := at_L13 (Kd.S_reads' HO_4.out).2.2 x5_2 p352 q352
           cases e352
           obtain ⟨ce352, hce352, hMe352, hcc352⟩ := Kd.S_get HO_4.out [] x5_2 p352 (by first | exact q352 | exact odA | (have e_ := (Kd.S_reads' HO_4.out).1; omega)); obtain ⟨ve352_0, rfl, ge352_0⟩ := hMe352; have hv352_0 := hcc352 0 _ rfl; rw [Nat.add_zero, show ((Kd.slice 3 (Kd.int .i64))).sz = 1 from rfl, Nat.mul_one] at hv352_0; replace hv352_0 := sI (hv352_0.symm.trans hx352_0); rw [hv352_0] at ge352_0; have HL352_0 := aM (show Kd.R (Kd.int .i64) 3 _ _ _ _ (rd_L13 t349 x5_2) from ge352_0); clear hv352_0 ge352_0 hcc352 hce352; have HR352_0 := aM hi352_0; have HC352_0 := aM hl352_0; clear hi352_0 hl352_0; replace p352 := eq_true p352; replace q352 := eq_true q352; try go_wp2_with (first | ((with_reducible refine gate_callee (f := 144) rfl ?_); refine goesA (some 27) Tryz.func144 #[.slice A352_0 (rd_L13 t349 x5_2).length c352_0] ?_; (with_reducible refine (R02_part.calls _ _ _ _ _ _ ?side1 ?side2 A206.out).mono ?_); (case side1 => repeat (first | exact (by repeat (first | (with_reducible exact HR352_0.out) | (with_reducible refine Kd.C_alloc ?_ _) | (with_reducible refine Kd.C_drewN ?_ _) | (with_reducible refine Kd.C_drew ?_) | exact HR352_0.out)) | (with_reducible refine Kd.C_alloc ?_ _) | (with_reducible refine Kd.C_drewN ?_ _) | (with_reducible refine Kd.C_drew ?_))); (case side2 => exact HC352_0.out); rintro e w' ⟨rfl, ⟨nd, rfl⟩⟩; refine ⟨_, rfl, ?_⟩))
           first
            | clear M12
              go_roundg k2
              case measure => have := HJ100.out; have := HK2.out; omega
              case rel => exact ⟨(wrap64 (x5_2 + 1)), (endS), H', ⟨by have := HJ100.out; have := HK2.out; omega⟩, ⟨by (with_reducible repeat (first | apply Kd.R_alloc | apply Kd.R_drewN | apply Kd.R_drew)); exact HO_3.out⟩, ⟨by (with_reducible repeat (first | apply Kd.S_alloc | apply Kd.S_drewN | apply Kd.S_drew)); exact HO_4.out⟩, ⟨bwA⟩⟩
            | clear M13
              go_ret; exact ⟨endA, bwA⟩
         | clear M14
           go_wp2; go_ret; exact ⟨endA, bwA⟩
def R05_IsID.f (a0_0 : Int) (a0_1 : Int) (a0_2 : Int) : Option (Bool) := if a0_0 ≥ 1 then (if a0_0 ≤ 15 then (if a0_1 ≥ 1 then (if a0_1 ≤ 1099511627775 then (if a0_2 ≥ 1 then (some (decide (a0_2 ≤ 1099511627775))) else (some false)) else (some false)) else (some false)) else (some false)) else (some false)
theorem R05_IsID.calls (a0_0 : Int) (a0_1 : Int) (a0_2 : Int) (r : Bool) (w : World) (h : R05_IsID.f a0_0 a0_1 a0_2 = some r) :
  Calls Tryz.prog 80 #[.agg #[.int .i64 a0_0, .int .i64 a0_1, .int .i64 a0_2]] w fun e w' => e = .returned (.bool r) ∧ Below w.heap.size w w' := by
 have hu36 := Tryz.underlying36; have HB := aM (Below.refl w.heap.size w); unfold R05_IsID.f at h; have H := h; clear h; revert H; refine itR ?L1p ?L1n
 case' L1p =>
  intro c2 H; have c2b0 := geT c2; clear c2; revert H; refine itR ?L2p ?L2n
  case' L2p =>
   intro c3 H; have c3b0 := dT c3; clear c3; revert H; refine itR ?L3p ?L3n
   case' L3p =>
    intro c4 H; have c4b0 := geT c4; clear c4; revert H; refine itR ?L4p ?L4n
    case' L4p =>
     intro c5 H; have c5b0 := dT c5; clear c5; revert H; refine itR ?L5p ?L5n
     case' L5p =>
      intro c6 H; have c6b0 := geT c6; clear c6; obtain rfl := sI H
     case' L5n =>
      intro c6 H; have c6b0 := geF c6; clear c6; obtain rfl := sI H
    case' L4n =>
     intro c5 H; have c5b0 := dF c5; clear c5; obtain rfl := sI H
   case' L3n =>
    intro c4 H; have c4b0 := geF c4; clear c4; obtain rfl := sI H
  case' L2n =>
   intro c3 H; have c3b0 := dF c3; clear c3; obtain rfl := sI H
 case' L1n =>
  intro c2 H; have c2b0 := geF c2; clear c2; obtain rfl := sI H
 all_goals
  case _ =>
   go_enter Tryz.func80, Tryz.ntmps80; (try go_wp2_with (first | ((with_reducible refine gate_dst (N := 1) rfl ?_); refine boxB 1 #[.int .i64 a0_0, .int .i64 a0_1, .int .i64 a0_2] 36 HB ?_; clear HB; intro gb354 w101 BK354 GW354 GE354 HB; obtain ⟨hcz102_0, hcz102_1, hcz102_2⟩ := cel3 BK354.out; obtain ⟨hfz102_0, hfz102_1, hfz102_2⟩ := frz3 BK354.out))); go_ret; exact ⟨endA, bwA⟩
def R02_Bytes.f (a0 : Int) : Option (ByteArray) := if a0 < 128 then (some (strOfNums (([(a0) % 256] : List Int)))) else (if a0 < 2048 then (some (strOfNums (([(wrap64 (192 + (wrap64 (Int.tdiv a0 64)))) % 256, (wrap64 (128 + (Int.tmod a0 64))) % 256] : List Int)))) else (if a0 < 65536 then (some (strOfNums (([(wrap64 (224 + (wrap64 (Int.tdiv a0 4096)))) % 256, (wrap64 (128 + (Int.tmod (wrap64 (Int.tdiv a0 64)) 64))) % 256, (wrap64 (128 + (Int.tmod a0 64))) % 256] : List Int)))) else (some (strOfNums (([(wrap64 (240 + (wrap64 (Int.tdiv a0 262144)))) % 256, (wrap64 (128 + (Int.tmod (wrap64 (Int.tdiv a0 4096)) 64))) % 256, (wrap64 (128 + (Int.tmod (wrap64 (Int.tdiv a0 64)) 64))) % 256, (wrap64 (128 + (Int.tmod a0 64))) % 256] : List Int))))))
theorem R02_Bytes.calls (a0 : Int) (r : ByteArray) (w : World) (h : R02_Bytes.f a0 = some r) :
  Calls Tryz.prog 217 #[.int .i64 a0] w fun e w' => e = .returned (.string r) ∧ Below w.heap.size w w' := by
 have HB := aM (Below.refl w.heap.size w); unfold R02_Bytes.f at h; have H := h; clear h; revert H; refine itR ?L5p ?L5n
 case' L5p =>
  intro c2 H; have c2b0 := dT c2; clear c2
  first | ((with_reducible replace H := bsG H); obtain ⟨y355, Ny355, H⟩ := H) | (obtain ⟨y355, hy355⟩ : ∃ y_ : List Int, y_ = (([(a0) % 256] : List Int)) := ⟨_, rfl⟩; rw [← hy355] at H; have Ny355 := aM hy355; clear hy355)
  obtain rfl := sI H; have M1 := trivial
 case' L5n =>
  intro c2 H; have c2b0 := dF c2; clear c2; revert H; refine itR ?L6p ?L6n
  case' L6p =>
   intro c3 H; have c3b0 := dT c3; clear c3
   first | ((with_reducible replace H := bsG H); obtain ⟨y358, Ny358, H⟩ := H) | (obtain ⟨y358, hy358⟩ : ∃ y_ : List Int, y_ = (([(wrap64 (192 + (wrap64 (Int.tdiv a0 64)))) % 256, (wrap64 (128 + (Int.tmod a0 64))) % 256] : List Int)) := ⟨_, rfl⟩; rw [← hy358] at H; have Ny358 := aM hy358; clear hy358)
   obtain rfl := sI H; have M2 := trivial
  case' L6n =>
   intro c3 H; have c3b0 := dF c3; clear c3; revert H; refine itR ?L7p ?L7n
   case' L7p =>
    intro c4 H; have c4b0 := dT c4; clear c4
    first | ((with_reducible replace H := bsG H); obtain ⟨y361, Ny361, H⟩ := H) | (obtain ⟨y361, hy361⟩ : ∃ y_ : List Int, y_ = (([(wrap64 (224 + (wrap64 (Int.tdiv a0 4096)))) % 256, (wrap64 (128 + (Int.tmod (wrap64 (Int.tdiv a0 64)) 64))) % 256, (wrap64 (128 + (Int.tmod a0 64))) % 256] : List Int)) := ⟨_, rfl⟩; rw [← hy361] at H; have Ny361 := aM hy361; clear hy361)
    obtain rfl := sI H; have M3 := trivial
   case' L7n =>
    intro c4 H; have c4b0 := dF c4; clear c4
    first | ((with_reducible replace H := bsG H); obtain ⟨y364, Ny364, H⟩ := H) | (obtain ⟨y364, hy364⟩ : ∃ y_ : List Int, y_ = (([(wrap64 (240 + (wrap64 (Int.tdiv a0 262144)))) % 256, (wrap64 (128 + (Int.tmod (wrap64 (Int.tdiv a0 4096)) 64))) % 256, (wrap64 (128 + (Int.tmod (wrap64 (Int.tdiv a0 64)) 64))) % 256, (wrap64 (128 + (Int.tmod a0 64))) % 256] : List Int)) := ⟨_, rfl⟩; rw [← hy364] at H; have Ny364 := aM hy364; clear hy364)
    obtain rfl := sI H; have M4 := trivial
 all_goals
  case _ =>
   go_enter Tryz.func217, Tryz.ntmps217
   first
    | clear M1
      (try go_wp2_with (first | ((with_reducible refine gate_dst (N := 7) rfl ?_); refine Kd.R_lit (Kd.int .u8) _ 5 ?hg (N := 7) ?hd (xs := ([(a0) % 256] : List Int)) (inner := [.int .u8 ((a0) % 256)]) (ok := fun _ => True) (okp := fun _ => True) ?hr ?hp (fun _ hk => hk) trivial (Below.refl _ _) (Nat.le_refl _) (by simp) ?_; (case hd => rfl); (case hg => rfl); (case hr => first | (go_simp; done) | (go_simp; rfl)); (case hp => exact (Reps.one (show Kd.M (Kd.int .u8) _ _ _ ((a0) % 256) [.int .u8 ((a0) % 256)] from rfl) (Reps.none _ _))); intro v356 w101 ho102 hb hg_ hnew_; clear hg_ hnew_; (first | rw [← Ny355.out] at ho102 | (simp only [Int.reduceToNat] at ho102; rw [← Ny355.out] at ho102)); have HO357 := aM (Kd.R_lower ho102 (below_size (bwA))); replace HB := aM (below_step (bwA) hb); clear hb ho102; have hcv103 := own_string (P := Tryz.prog) Tryz.underlying160 Tryz.underlying5 Tryz.underlying9 (Kd.own_of_R HO357.out)))); go_ret; exact ⟨endA, bwA⟩
    | clear M2
      (try go_wp2_with (first | ((with_reducible refine gate_dst (N := 19) rfl ?_); refine Kd.R_lit (Kd.int .u8) _ 5 ?hg (N := 19) ?hd (xs := ([(wrap64 (192 + (wrap64 (Int.tdiv a0 64)))) % 256, (wrap64 (128 + (Int.tmod a0 64))) % 256] : List Int)) (inner := [.int .u8 ((wrap64 (192 + (wrap64 (Int.tdiv a0 64)))) % 256), .int .u8 ((wrap64 (128 + (Int.tmod a0 64))) % 256)]) (ok := fun _ => True) (okp := fun _ => True) ?hr ?hp (fun _ hk => hk) trivial (Below.refl _ _) (Nat.le_refl _) (by simp) ?_; (case hd => rfl); (case hg => rfl); (case hr => first | (go_simp; done) | (go_simp; rfl)); (case hp => exact (Reps.one (show Kd.M (Kd.int .u8) _ _ _ ((wrap64 (192 + (wrap64 (Int.tdiv a0 64)))) % 256) [.int .u8 ((wrap64 (192 + (wrap64 (Int.tdiv a0 64)))) % 256)] from rfl) (Reps.one (show Kd.M (Kd.int .u8) _ _ _ ((wrap64 (128 + (Int.tmod a0 64))) % 256) [.int .u8 ((wrap64 (128 + (Int.tmod a0 64))) % 256)] from rfl) (Reps.none _ _)))); intro v359 w101 ho102 hb hg_ hnew_; clear hg_ hnew_; (first | rw [← Ny358.out] at ho102 | (simp only [Int.reduceToNat] at ho102; rw [← Ny358.out] at ho102)); have HO360 := aM (Kd.R_lower ho102 (below_size (bwA))); replace HB := aM (below_step (bwA) hb); clear hb ho102; have hcv103 := own_string (P := Tryz.prog) Tryz.underlying160 Tryz.underlying5 Tryz.underlying9 (Kd.own_of_R HO360.out)))); go_ret; exact ⟨endA, bwA⟩
    | clear M3
      (try go_wp2_with (first | ((with_reducible refine gate_dst (N := 36) rfl ?_); refine Kd.R_lit (Kd.int .u8) _ 5 ?hg (N := 36) ?hd (xs := ([(wrap64 (224 + (wrap64 (Int.tdiv a0 4096)))) % 256, (wrap64 (128 + (Int.tmod (wrap64 (Int.tdiv a0 64)) 64))) % 256, (wrap64 (128 + (Int.tmod a0 64))) % 256] : List Int)) (inner := [.int .u8 ((wrap64 (224 + (wrap64 (Int.tdiv a0 4096)))) % 256), .int .u8 ((wrap64 (128 + (Int.tmod (wrap64 (Int.tdiv a0 64)) 64))) % 256), .int .u8 ((wrap64 (128 + (Int.tmod a0 64))) % 256)]) (ok := fun _ => True) (okp := fun _ => True) ?hr ?hp (fun _ hk => hk) trivial (Below.refl _ _) (Nat.le_refl _) (by simp) ?_; (case hd => rfl); (case hg => rfl); (case hr => first | (go_simp; done) | (go_simp; rfl)); (case hp => exact (Reps.one (show Kd.M (Kd.int .u8) _ _ _ ((wrap64 (224 + (wrap64 (Int.tdiv a0 4096)))) % 256) [.int .u8 ((wrap64 (224 + (wrap64 (Int.tdiv a0 4096)))) % 256)] from rfl) (Reps.one (show Kd.M (Kd.int .u8) _ _ _ ((wrap64 (128 + (Int.tmod (wrap64 (Int.tdiv a0 64)) 64))) % 256) [.int .u8 ((wrap64 (128 + (Int.tmod (wrap64 (Int.tdiv a0 64)) 64))) % 256)] from rfl) (Reps.one (show Kd.M (Kd.int .u8) _ _ _ ((wrap64 (128 + (Int.tmod a0 64))) % 256) [.int .u8 ((wrap64 (128 + (Int.tmod a0 64))) % 256)] from rfl) (Reps.none _ _))))); intro v362 w101 ho102 hb hg_ hnew_; clear hg_ hnew_; (first | rw [← Ny361.out] at ho102 | (simp only [Int.reduceToNat] at ho102; rw [← Ny361.out] at ho102)); have HO363 := aM (Kd.R_lower ho102 (below_size (bwA))); replace HB := aM (below_step (bwA) hb); clear hb ho102; have hcv103 := own_string (P := Tryz.prog) Tryz.underlying160 Tryz.underlying5 Tryz.underlying9 (Kd.own_of_R HO363.out)))); go_ret; exact ⟨endA, bwA⟩
    | clear M4
      (try go_wp2_with (first | ((with_reducible refine gate_dst (N := 56) rfl ?_); refine Kd.R_lit (Kd.int .u8) _ 5 ?hg (N := 56) ?hd (xs := ([(wrap64 (240 + (wrap64 (Int.tdiv a0 262144)))) % 256, (wrap64 (128 + (Int.tmod (wrap64 (Int.tdiv a0 4096)) 64))) % 256, (wrap64 (128 + (Int.tmod (wrap64 (Int.tdiv a0 64)) 64))) % 256, (wrap64 (128 + (Int.tmod a0 64))) % 256] : List Int)) (inner := [.int .u8 ((wrap64 (240 + (wrap64 (Int.tdiv a0 262144)))) % 256), .int .u8 ((wrap64 (128 + (Int.tmod (wrap64 (Int.tdiv a0 4096)) 64))) % 256), .int .u8 ((wrap64 (128 + (Int.tmod (wrap64 (Int.tdiv a0 64)) 64))) % 256), .int .u8 ((wrap64 (128 + (Int.tmod a0 64))) % 256)]) (ok := fun _ => True) (okp := fun _ => True) ?hr ?hp (fun _ hk => hk) trivial (Below.refl _ _) (Nat.le_refl _) (by simp) ?_; (case hd => rfl); (case hg => rfl); (case hr => first | (go_simp; done) | (go_simp; rfl)); (case hp => exact (Reps.one (show Kd.M (Kd.int .u8) _ _ _ ((wrap64 (240 + (wrap64 (Int.tdiv a0 262144)))) % 256) [.int .u8 ((wrap64 (240 + (wrap64 (Int.tdiv a0 262144)))) % 256)] from rfl) (Reps.one (show Kd.M (Kd.int .u8) _ _ _ ((wrap64 (128 + (Int.tmod (wrap64 (Int.tdiv a0 4096)) 64))) % 256) [.int .u8 ((wrap64 (128 + (Int.tmod (wrap64 (Int.tdiv a0 4096)) 64))) % 256)] from rfl) (Reps.one (show Kd.M (Kd.int .u8) _ _ _ ((wrap64 (128 + (Int.tmod (wrap64 (Int.tdiv a0 64)) 64))) % 256) [.int .u8 ((wrap64 (128 + (Int.tmod (wrap64 (Int.tdiv a0 64)) 64))) % 256)] from rfl) (Reps.one (show Kd.M (Kd.int .u8) _ _ _ ((wrap64 (128 + (Int.tmod a0 64))) % 256) [.int .u8 ((wrap64 (128 + (Int.tmod a0 64))) % 256)] from rfl) (Reps.none _ _)))))); intro v365 w101 ho102 hb hg_ hnew_; clear hg_ hnew_; (first | rw [← Ny364.out] at ho102 | (simp only [Int.reduceToNat] at ho102; rw [← Ny364.out] at ho102)); have HO366 := aM (Kd.R_lower ho102 (below_size (bwA))); replace HB := aM (below_step (bwA) hb); clear hb ho102; have hcv103 := own_string (P := Tryz.prog) Tryz.underlying160 Tryz.underlying5 Tryz.underlying9 (Kd.own_of_R HO366.out)))); go_ret; exact ⟨endA, bwA⟩
mutual
def R02_Parts.l0 : Nat → List (List Int) → List ByteArray → Int → Option (List ByteArray)
 | 0, _, _, _ => none
 | k + 1, x3, x4, x5 => if x5 < (x3.length : Int) then (R02_Parts.l1 k x3 x4 x5 (⟨#[]⟩ : ByteArray) 0) else (some x4)
def R02_Parts.l1 : Nat → List (List Int) → List ByteArray → Int → ByteArray → Int → Option (List ByteArray)
 | 0, _, _, _, _, _ => none
 | k + 1, x3, x4, x5, x6, x7 => if 0 ≤ x5 then (if x5 < (x3.length : Int) then (if x7 < ((rd_L13 x3 x5).length : Int) then (if 0 ≤ x7 then ((R02_Bytes.f (rd (rd_L13 x3 x5) x7)).bind fun t377 => (if x6.size + t377.size ≤ 9223372036854775807 then (R02_Parts.l1 k x3 x4 x5 (x6 ++ t377) (wrap64 (x7 + 1))) else (none))) else (none)) else (if x4.length < 8796093022208 then (R02_Parts.l0 k x3 (x4 ++ [x6]) (wrap64 (x5 + 1))) else (none))) else (none)) else (none)
end
def R02_Parts.f (k : Nat) (a0 : ByteArray) : Option (List ByteArray) := (R02_Check.f k a0).bind fun t367 => (if t367 = 0 then ((R02_Runes.f k a0).bind fun t368 => ((R02_Split.f k t368).bind fun t371 => (R02_Parts.l0 k t371 ([] : List ByteArray) 0))) else (some ([] : List ByteArray)))
theorem R02_Parts.mono_l : ∀ k, (∀ y0 y1 y2, LeO (R02_Parts.l0 k y0 y1 y2) (R02_Parts.l0 (k + 1) y0 y1 y2)) ∧ (∀ y0 y1 y2 y3 y4, LeO (R02_Parts.l1 k y0 y1 y2 y3 y4) (R02_Parts.l1 (k + 1) y0 y1 y2 y3 y4))
 | 0 => ⟨fun _ _ _ r h => by simp [R02_Parts.l0] at h, fun _ _ _ _ _ r h => by simp [R02_Parts.l1] at h⟩
 | k + 1 => by
  obtain ⟨ih0, ih1⟩ := R02_Parts.mono_l k; refine ⟨?_, ?_⟩
  all_goals intros
  all_goals first | unfold R02_Parts.l0 | unfold R02_Parts.l1
  all_goals repeat' (with_reducible first | exact ih0 _ _ _ | exact ih1 _ _ _ _ _ | exact R02_Check.mono _ _ | exact R02_Runes.mono _ _ | exact R02_Split.mono _ _ | exact LeO.refl _ | exact LeO.none _ | refine LeO.ite ?_ ?_ | refine LeO.bind ?_ (fun _ => ?_))
theorem R02_Parts.mono : ∀ a0 k, LeO (R02_Parts.f k a0) (R02_Parts.f (k + 1) a0) := by
 intro a0 k; obtain ⟨ih0, ih1⟩ := R02_Parts.mono_l k; unfold R02_Parts.f
 repeat' (with_reducible first | exact ih0 _ _ _ | exact ih1 _ _ _ _ _ | exact R02_Check.mono _ _ | exact R02_Runes.mono _ _ | exact R02_Split.mono _ _ | exact LeO.refl _ | exact LeO.none _ | refine LeO.ite ?_ ?_ | refine LeO.bind ?_ (fun _ => ?_))
theorem R02_Parts.calls (k : Nat) (a0 : ByteArray) (r : List ByteArray) (w : World) (h : R02_Parts.f k a0 = some r) :
  Calls Tryz.prog 190 #[.string a0] w fun e w' => ∃ v0_ : Value, e = .returned (v0_) ∧ Kd.R Kd.string 9 w' w.heap.size (fun _ => True) v0_ r ∧ Below w.heap.size w w' := by
 have HB := aM (Below.refl w.heap.size w); unfold R02_Parts.f at h; have H := h; clear h; replace H := bnA H; obtain ⟨t367, A2, H⟩ := H; revert H; refine itQ ?L9p ?L9n
 case' L9p =>
  rintro ⟨c3b0, c3b1⟩ H; replace H := bnA H; obtain ⟨t368, A4, H⟩ := H; replace H := bnA H; obtain ⟨t371, A5, H⟩ := H; have H' := aM H; clear H; have M7 := trivial
 case' L9n =>
  rintro ⟨c3b0, c3b1⟩ c3 H; obtain rfl := sI H; have M8 := trivial
 all_goals
  case _ =>
   go_enter Tryz.func190, Tryz.ntmps190; go_wp2_with (first | ((with_reducible refine gate_callee (f := 70) rfl ?_); refine goesA (some 9) Tryz.func70 #[.string a0] ?_; (with_reducible refine (R02_Check.calls _ _ _ _ A2.out).mono ?_); rintro e w101 ⟨rfl, hb⟩; refine ⟨_, rfl, ?_⟩; replace HB := aM (below_step (bwA) hb); (try clear hb); apply stopA; (case other => exact trivial)))
   case _ =>
    first
     | clear M7
       try go_wp2_with (first | ((with_reducible refine gate_callee (f := 142) rfl ?_); refine goesA (some 12) Tryz.func142 #[.string a0] ?_; (with_reducible refine (R02_Runes.calls _ _ _ _ A4.out).mono ?_); rintro e w102 ⟨v369, rfl, ho0, hb⟩; refine ⟨_, rfl, ?_⟩; have HO370 := aM (Kd.R_lower ho0 (below_size (bwA))); replace HB := aM (below_step (bwA) hb); (try clear hb); (try clear ho0); obtain ⟨Ao103, co103, eo103⟩ := Kd.R_slice HO370.out; subst eo103) | ((with_reducible refine gate_callee (f := 143) rfl ?_); refine goesA (some 13) Tryz.func143 #[.slice Ao103 t368.length co103] ?_; (with_reducible refine (R02_Split.calls _ _ _ _ _ _ ?side1 ?side2 A5.out).mono ?_); (case side1 => repeat (first | exact (Kd.R_reads' HO370.out).2.2 | (with_reducible refine Kd.C_alloc ?_ _) | (with_reducible refine Kd.C_drewN ?_ _) | (with_reducible refine Kd.C_drew ?_))); (case side2 => exact (Kd.R_reads' HO370.out).2.1); rintro e w104 ⟨v372, rfl, ho0, hb⟩; refine ⟨_, rfl, ?_⟩; have HO373 := aM (Kd.S_lower (Kd.S_new' ho0 (Kd.R_lt (raA HO370.out))) (below_size (bwA))); replace HO370 := aM (Kd.R_below (raA HO370.out) hb); replace HB := aM (below_step (bwA) hb); (try clear hb); (try clear ho0)))
       go_loopg [4, 5] k (fun kq v4 v5 w' => ∃ (x4_1 : List ByteArray) (x5_1 : Int), v5 = .int .i64 x5_1 ∧ Aside0 (R02_Parts.l0 kq t371 x4_1 x5_1 = some r) ∧ Aside0 (kq ≤ k) ∧ Aside0 (Kd.S (Kd.slice 3 (Kd.int .i64)) 146 w' w.heap.size (fun _ => True) v372 t371) ∧ Aside0 (Kd.R Kd.string 9 w' w.heap.size (fun _ => True) v4 x4_1) ∧ Aside0 (Below w.heap.size w w'))
       case atStart => exact ⟨(([] : List ByteArray)), (0), (endS), H', ⟨Nat.le_refl _⟩, ⟨by (with_reducible repeat (first | apply Kd.S_alloc | apply Kd.S_drewN | apply Kd.S_drew)); exact Kd.S_mono HO373.out (fun _ hk => trivial)⟩, ⟨by first | exact Kd.R_nil _ _ _ _ _ | exact Kd.N_nil _ _ _ _ _ | exact Kd.V_nil _ _ _ _ _ | exact Kd.Q_nil _ _ _ _ _ | exact Kd.S_nil _ _ _ _ _⟩, ⟨bwA⟩⟩
       case round =>
        clear H'; (try clear c1); (try clear p2); (try clear c3); (try clear c3b0); (try clear c3b1); (try clear c7); (try clear c14); (try clear c19); (try clear c70); obtain ⟨x4_1, x5_1, rfl, HA, HK1, HO_3, HO_4, HB⟩ := hrel
        cases gk with
        | zero => exact absurd HA.out (by simp [R02_Parts.l0])
        | succ k1 =>
         have H := HA.out; clear HA; simp only [R02_Parts.l0] at H; revert H; refine itR ?L6p ?L6n
         case' L6p =>
          intro c105 H; have c105b0 := dT c105; clear c105; have H' := aM H; clear H; have M4 := trivial
         case' L6n =>
          intro c105 H; have c105b0 := dF c105; clear c105; obtain rfl := sI H; have M5 := trivial
         all_goals
          case _ =>
           obtain ⟨Ao201, co201, eo201⟩ := Kd.S_slice HO_3.out; subst eo201; go_wp2
           first
            | clear M4
              go_loopg [6, 7] k1 (fun kq v6 v7 w' => ∃ (x6_2 : ByteArray) (x7_2 : Int), v6 = .string x6_2 ∧ v7 = .int .i64 x7_2 ∧ Aside0 (R02_Parts.l1 kq t371 x4_1 x5_1 x6_2 x7_2 = some r) ∧ Aside0 (kq ≤ k1) ∧ Aside0 (Kd.S (Kd.slice 3 (Kd.int .i64)) 146 w' w.heap.size (fun _ => True) (.slice Ao201 t371.length co201) t371) ∧ Aside0 (Kd.R Kd.string 9 w' w.heap.size (fun _ => True) u4 x4_1) ∧ Aside0 (Below w.heap.size w w'))
              case atStart => exact ⟨((⟨#[]⟩ : ByteArray)), (0), (endS), (endS), H', ⟨Nat.le_refl _⟩, ⟨by (with_reducible repeat (first | apply Kd.S_alloc | apply Kd.S_drewN | apply Kd.S_drew)); exact HO_3.out⟩, ⟨by (with_reducible repeat (first | apply Kd.R_alloc | apply Kd.R_drewN | apply Kd.R_drew)); exact HO_4.out⟩, ⟨bwA⟩⟩
              case round =>
               clear H'; (try clear c1); (try clear p2); (try clear c3); (try clear c3b0); (try clear c3b1); (try clear c7); (try clear c10); (try clear c14); (try clear c19); (try clear c70); (try clear c105); (try clear c105b0); (try clear c142); (try clear c143); (try clear c190); (try clear p2); obtain ⟨x6_2, x7_2, rfl, rfl, HA, HK2, HO_3, HO_4, HB⟩ := hrel
               cases gk with
               | zero => exact absurd HA.out (by simp [R02_Parts.l1])
               | succ k2 =>
                have H := HA.out; clear HA; simp only [R02_Parts.l1] at H; replace H := itN H; obtain ⟨c202, H⟩ := H; have c202b0 := dT c202; clear c202; replace H := itN H; obtain ⟨c203, H⟩ := H; have c203b0 := dT c203; clear c203; revert H; refine itR ?L3p ?L3n
                case' L3p =>
                 intro c204 H; have c204b0 := dT c204; clear c204; replace H := itN H; obtain ⟨c205, H⟩ := H; have c205b0 := dT c205; clear c205; replace H := bnA H; obtain ⟨t377, A206, H⟩ := H; replace H := itN H; obtain ⟨c207, H⟩ := H; have c207b0 := eq_true c207; have c207b1 := dT c207; (try have c207b2 : (9223372036854775807 < x6_2.size + t377.size) = False := eq_false (Nat.not_lt.2 c207)); have H' := aM H; clear H; have M1 := trivial
                case' L3n =>
                 intro c204 H; have c204b0 := dF c204; clear c204; replace H := itN H; obtain ⟨c205, H⟩ := H; have LMc205 := aM c205; clear c205
                 first | ((with_reducible replace H := bsG H); obtain ⟨y378, Ny378, H⟩ := H) | (obtain ⟨y378, hy378⟩ : ∃ y_ : List ByteArray, y_ = (x4_1 ++ [x6_2]) := ⟨_, rfl⟩; rw [← hy378] at H; have Ny378 := aM hy378; clear hy378)
                 have H' := aM H; clear H; have M2 := trivial
                all_goals
                 case _ =>
                  have p374 : 0 ≤ (x5_1 : Int) := odA; have q374 : x5_1 < (t371.length : Int) := odA; obtain ⟨ad374, A374_0, c374_0, e374, hx374_0, hl374_0, hi374_0⟩ := at_L13 (Kd.S_reads' HO_3.out).2.2 x5_1 p374 q374
                  cases e374
                  obtain ⟨ce374, hce374, hMe374, hcc374⟩ := Kd.S_get HO_3.out [] x5_1 p374 (by first | exact q374 | exact odA | (have e_ := (Kd.S_reads' HO_3.out).1; omega)); obtain ⟨ve374_0, rfl, ge374_0⟩ := hMe374; have hv374_0 := hcc374 0 _ rfl; rw [Nat.add_zero, show ((Kd.slice 3 (Kd.int .i64))).sz = 1 from rfl, Nat.mul_one] at hv374_0; replace hv374_0 := sI (hv374_0.symm.trans hx374_0); rw [hv374_0] at ge374_0; have HL374_0 := aM (show Kd.R (Kd.int .i64) 3 _ _ _ _ (rd_L13 t371 x5_1) from ge374_0); clear hv374_0 ge374_0 hcc374 hce374; have HR374_0 := aM hi374_0; have HC374_0 := aM hl374_0; clear hi374_0 hl374_0; replace p374 := eq_true p374; replace q374 := eq_true q374
                  first
                   | clear M1
                     have p375 : 0 ≤ (x5_1 : Int) := odA; have q375 : x5_1 < (t371.length : Int) := odA; obtain ⟨ad375, A375_0, c375_0, e375, hx375_0, hl375_0, hi375_0⟩ := at_L13 (Kd.S_reads' HO_3.out).2.2 x5_1 p375 q375; obtain rfl : ad374 = ad375 := (by injection e375); obtain ⟨ce375, hce375, hMe375, hcc375⟩ := Kd.S_get HO_3.out [] x5_1 p375 (by first | exact q375 | exact odA | (have e_ := (Kd.S_reads' HO_3.out).1; omega)); obtain ⟨ve375_0, rfl, ge375_0⟩ := hMe375; have hv375_0 := hcc375 0 _ rfl; rw [Nat.add_zero, show ((Kd.slice 3 (Kd.int .i64))).sz = 1 from rfl, Nat.mul_one] at hv375_0; replace hv375_0 := sI (hv375_0.symm.trans hx375_0); rw [hv375_0] at ge375_0; have HL375_0 := aM (show Kd.R (Kd.int .i64) 3 _ _ _ _ (rd_L13 t371 x5_1) from ge375_0); clear hv375_0 ge375_0 hcc375 hce375; have HR375_0 := aM hi375_0; have HC375_0 := aM hl375_0; clear hi375_0 hl375_0; replace p375 := eq_true p375; replace q375 := eq_true q375; have ea_ := sI (hx374_0.symm.trans hx375_0)
                     injection ea_ with ea_ en_ ec_
                     subst ea_; subst ec_; clear en_; have p376 : 0 ≤ (x7_2 : Int) := odA; have q376 : x7_2 < ((rd_L13 t371 x5_1).length : Int) := odA; obtain ⟨ad376, e376, hx376_0⟩ := Kd.at_int (by repeat (first | (with_reducible exact HR375_0.out) | (with_reducible refine Kd.C_alloc ?_ _) | (with_reducible refine Kd.C_drewN ?_ _) | (with_reducible refine Kd.C_drew ?_) | exact HR375_0.out)) x7_2 p376 q376
                     cases e376
                     replace p376 := eq_true p376; replace q376 := eq_true q376; try go_wp2_with (first | ((with_reducible refine gate_callee (f := 217) rfl ?_); refine goesA (some 37) Tryz.func217 #[.int .i64 (rd (rd_L13 t371 x5_1) x7_2)] ?_; (with_reducible refine (R02_Bytes.calls _ _ _ A206.out).mono ?_); rintro e w301 ⟨rfl, hb⟩; refine ⟨_, rfl, ?_⟩; replace HO_3 := aM (Kd.S_below (by (with_reducible repeat (first | apply Kd.S_alloc | apply Kd.S_drewN | apply Kd.S_drew)); exact HO_3.out) hb); replace HO_4 := aM (Kd.R_below (raA HO_4.out) hb); replace HL374_0 := aM (Kd.R_below (raA HL374_0.out) hb); replace HL375_0 := aM (Kd.R_below (raA HL375_0.out) hb); replace HR374_0 := aM (Kd.C_below (by repeat (first | (with_reducible exact HR374_0.out) | (with_reducible refine Kd.C_alloc ?_ _) | (with_reducible refine Kd.C_drewN ?_ _) | (with_reducible refine Kd.C_drew ?_) | exact HR374_0.out)) hb); replace HR375_0 := aM (Kd.C_below (by repeat (first | (with_reducible exact HR375_0.out) | (with_reducible refine Kd.C_alloc ?_ _) | (with_reducible refine Kd.C_drewN ?_ _) | (with_reducible refine Kd.C_drew ?_) | exact HR375_0.out)) hb); replace HB := aM (below_step (bwA) hb); (try clear hb)))
                     go_roundg k2
                     case measure => have := HK1.out; have := HK2.out; omega
                     case rel => exact ⟨(x6_2 ++ t377), (wrap64 (x7_2 + 1)), (endS), (endS), H', ⟨by have := HK1.out; have := HK2.out; omega⟩, ⟨by (with_reducible repeat (first | apply Kd.S_alloc | apply Kd.S_drewN | apply Kd.S_drew)); exact HO_3.out⟩, ⟨by (with_reducible repeat (first | apply Kd.R_alloc | apply Kd.R_drewN | apply Kd.R_drew)); exact HO_4.out⟩, ⟨bwA⟩⟩
                   | clear M2
                     try go_wp2_with (first | ((with_reducible refine gate_builtin (b := .append) (xs := #[.tmp 39, .tmp 41]) rfl ?_); at_builtin; refine Kd.R_append Kd.string (w0 := w) w.heap.size rfl (.tmp 39) (.tmp 41) 28 9 (.string ⟨#[]⟩) 16 rfl Tryz.underlying28 info9 rfl (by decide) (by omega) u4 x4_1 x6_2 [.string x6_2] (fun _ => True) (fun _ => False) rfl rfl ?aP (fun _ hk => hk.elim) ?aF ?aO ?aB ?aS ?aL ?_; (case aP => exact rfl); (case aB => exact (bwA)); (case aF => exact (fun _ _ => trivial)); (case aO => exact (raA HO_4.out)); (case aS => exact (below_size (bwA))); (case aL => have := LMc205.out; omega); intro v379 w301 ho hb hg hat; rw [← Ny378.out] at ho; have n0_ := aM (Kd.S_over' (by (with_reducible repeat (first | apply Kd.S_alloc | apply Kd.S_drewN | apply Kd.S_drew)); exact HO_3.out) (Kd.R_typed (raA HO_4.out)) (by decide) hg); have n1_ := aM (Kd.R_over' (raA HL374_0.out) (Kd.R_typed (raA HO_4.out)) (by decide) hg); have n2_ := aM (hb); have n3_ := aM (ho); clear HO_3; clear HL374_0; clear HB; clear HO_4; have HO_3 := n0_; have HL374_0 := n1_; have HB := n2_; have HO380 := n3_; clear n0_ n1_ n2_ n3_; clear ho hb hg hat))
                     go_roundg k2
                     case measure => have := HK1.out; have := HK2.out; omega
                     case rel => exact ⟨(y378), (wrap64 (x5_1 + 1)), (endS), H', ⟨by have := HK1.out; have := HK2.out; omega⟩, ⟨by (with_reducible repeat (first | apply Kd.S_alloc | apply Kd.S_drewN | apply Kd.S_drew)); exact HO_3.out⟩, ⟨by (with_reducible repeat (first | apply Kd.R_alloc | apply Kd.R_drewN | apply Kd.R_drew)); exact HO380.out⟩, ⟨bwA⟩⟩
            | clear M5
              go_ret; exact ⟨_, endA, by (with_reducible repeat (first | apply Kd.R_alloc | apply Kd.R_drewN | apply Kd.R_drew)); exact HO_4.out, bwA⟩
     | clear M8
       (try go_wp2_with (fail))
       go_ret; exact ⟨_, endA, by first | exact Kd.R_nil _ _ _ _ _ | exact Kd.N_nil _ _ _ _ _ | exact Kd.V_nil _ _ _ _ _ | exact Kd.Q_nil _ _ _ _ _ | exact Kd.S_nil _ _ _ _ _, bwA⟩
def R04_Simple.f (k : Nat) (a0 : ByteArray) : Option (Bool) := (R02_Check.f k a0).bind fun t381 => (if t381 = 0 then ((R02_Parts.f k a0).bind fun t382 => (some ((t382.length : Int) == 1))) else (some false))
theorem R04_Simple.mono : ∀ a0 k, LeO (R04_Simple.f k a0) (R04_Simple.f (k + 1) a0) := by
 intro a0 k; unfold R04_Simple.f
 repeat' (with_reducible first | exact R02_Check.mono _ _ | exact R02_Parts.mono _ _ | exact LeO.refl _ | exact LeO.none _ | refine LeO.ite ?_ ?_ | refine LeO.bind ?_ (fun _ => ?_))
theorem R04_Simple.calls (k : Nat) (a0 : ByteArray) (r : Bool) (w : World) (h : R04_Simple.f k a0 = some r) :
  Calls Tryz.prog 128 #[.string a0] w fun e w' => e = .returned (.bool r) ∧ Below w.heap.size w w' := by
 have HB := aM (Below.refl w.heap.size w); unfold R04_Simple.f at h; have H := h; clear h; replace H := bnA H; obtain ⟨t381, A2, H⟩ := H; revert H; refine itQ ?L3p ?L3n
 case' L3p =>
  rintro ⟨c3b0, c3b1⟩ H; replace H := bnA H; obtain ⟨t382, A4, H⟩ := H; obtain rfl := sI H; have M1 := trivial
 case' L3n =>
  rintro ⟨c3b0, c3b1⟩ c3 H; obtain rfl := sI H; have M2 := trivial
 all_goals
  case _ =>
   go_enter Tryz.func128, Tryz.ntmps128; go_wp2_with (first | ((with_reducible refine gate_callee (f := 70) rfl ?_); refine goesA (some 4) Tryz.func70 #[.string a0] ?_; (with_reducible refine (R02_Check.calls _ _ _ _ A2.out).mono ?_); rintro e w101 ⟨rfl, hb⟩; refine ⟨_, rfl, ?_⟩; replace HB := aM (below_step (bwA) hb); (try clear hb); apply stopA; (case other => exact trivial)))
   case _ =>
    first
     | clear M1
       (try go_wp2_with (first | (go_at_call 190; (with_reducible refine (R02_Parts.calls _ _ _ _ A4.out).mono ?_); rintro e w102 ⟨v383, rfl, ho0, hb⟩; have HO384 := aM (Kd.R_lower ho0 (below_size (bwA))); replace HB := aM (below_step (bwA) hb); (try clear hb); (try clear ho0); obtain ⟨Ao103, co103, eo103⟩ := Kd.R_slice HO384.out; subst eo103))); go_ret; exact ⟨endA, bwA⟩
     | clear M2
       (try go_wp2_with (fail))
       go_ret; exact ⟨endA, bwA⟩
end Go.Proofs.YtkdndabpaajkaaaGreatDoor.A
