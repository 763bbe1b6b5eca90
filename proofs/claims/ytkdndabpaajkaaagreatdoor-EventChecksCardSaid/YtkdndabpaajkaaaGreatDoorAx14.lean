import Derived.Test.YtkdndabpaajkaaaGreatDoorAx0
import Derived.Test.YtkdndabpaajkaaaGreatDoorAx12
import Derived.Test.YtkdndabpaajkaaaGreatDoorAx13
namespace Go.Proofs.YtkdndabpaajkaaaGreatDoor.A
open Go.RowKit Go.Proofs.YtkdndabpaajkaaaGreatDoorW.PrintWords Go.Proofs.YtkdndabpaajkaaaGreatDoorW.PrintLast Go.Proofs.YtkdndabpaajkaaaGreatDoorW.PrintMore
attribute [local go_sem] max2_int min2_int max_two min_two max_three min_three max_four min_four   -- for this text's walks alone
set_option linter.unusedVariables false
set_option linter.unusedSimpArgs false
set_option maxHeartbeats 8000000
set_option maxRecDepth 100000
def R03_Check.f (k : Nat) (a0_0 : Int) (a0_1 : Int) (a0_2 : ByteArray) : Option (Bool) := if a0_0 = 1 then (if a0_1 ≥ (-9007199254740991) then (if a0_1 ≤ 9007199254740991 then (some (a0_2.toList == ([] : List UInt8))) else (some false)) else (some false)) else (if a0_0 = 2 then (if a0_1 = 0 then (if (a0_2.size : Int) ≤ 200 then ((R02_Valid.f k a0_2).bind fun t386 => (some t386)) else (some false)) else (some false)) else (if a0_0 = 3 then (if a0_1 = 0 then (some (a0_2.toList == ([] : List UInt8))) else (if a0_1 = 1 then (some (a0_2.toList == ([] : List UInt8))) else (some false))) else (if a0_0 = 4 then (if a0_1 = 0 then (some (decide ((a0_2.size : Int) ≤ 200))) else (some false)) else (some false))))
theorem R03_Check.mono : ∀ a0 a1 a2 k, LeO (R03_Check.f k a0 a1 a2) (R03_Check.f (k + 1) a0 a1 a2) := by
 intro a0 a1 a2 k; unfold R03_Check.f
 repeat' (with_reducible first | exact R02_Valid.mono _ _ | exact LeO.refl _ | exact LeO.none _ | refine LeO.ite ?_ ?_ | refine LeO.bind ?_ (fun _ => ?_))
theorem R03_Check.calls (k : Nat) (a0_0 : Int) (a0_1 : Int) (a0_2 : ByteArray) (r : Bool) (w : World) (h : R03_Check.f k a0_0 a0_1 a0_2 = some r) :
  Calls Tryz.prog 129 #[.agg #[.int .i64 a0_0, .int .i64 a0_1, .string a0_2]] w fun e w' => e = .returned (.bool r) ∧ Below w.heap.size w w' := by
 have hu138 := Tryz.underlying138; have HB := aM (Below.refl w.heap.size w); unfold R03_Check.f at h; have H := h; clear h; revert H; refine itQ ?L3p ?L3n
 case' L3p =>
  rintro ⟨c2b0, c2b1⟩ H; revert H; refine itR ?L4p ?L4n
  case' L4p =>
   intro c3 H; have c3b0 := geT c3; clear c3; revert H; refine itR ?L5p ?L5n
   case' L5p =>
    intro c4 H; have c4b0 := dT c4; clear c4; obtain rfl := sI H; have M1 := trivial
   case' L5n =>
    intro c4 H; have c4b0 := dF c4; clear c4; obtain rfl := sI H; have M1 := trivial
  case' L4n =>
   intro c3 H; have c3b0 := geF c3; clear c3; obtain rfl := sI H; have M1 := trivial
 case' L3n =>
  rintro ⟨c2b0, c2b1⟩ c2 H; revert H; refine itQ ?L6p ?L6n
  case' L6p =>
   rintro ⟨c3b0, c3b1⟩ H; revert H; refine itQ ?L7p ?L7n
   case' L7p =>
    rintro ⟨c4b0, c4b1⟩ H; revert H; refine itR ?L8p ?L8n
    case' L8p =>
     intro c5 H; have c5b0 := dT c5; have c5b1 : decide (a0_2.size ≤ 200) = true := dT (by omega); clear c5; replace H := bnA H; obtain ⟨t386, A6, H⟩ := H; obtain rfl := sI H; have M2 := trivial
    case' L8n =>
     intro c5 H; have c5b0 := dF c5; have c5b1 : decide (a0_2.size ≤ 200) = false := dF (by omega); clear c5; obtain rfl := sI H; have M1 := trivial
   case' L7n =>
    rintro ⟨c4b0, c4b1⟩ c4 H; obtain rfl := sI H; have M1 := trivial
  case' L6n =>
   rintro ⟨c3b0, c3b1⟩ c3 H; revert H; refine itQ ?L9p ?L9n
   case' L9p =>
    rintro ⟨c4b0, c4b1⟩ H; revert H; refine itQ ?L10p ?L10n
    case' L10p =>
     rintro ⟨c5b0, c5b1⟩ H; obtain rfl := sI H; have M1 := trivial
    case' L10n =>
     rintro ⟨c5b0, c5b1⟩ c5 H; revert H; refine itQ ?L11p ?L11n
     case' L11p =>
      rintro ⟨c6b0, c6b1⟩ H; obtain rfl := sI H; have M1 := trivial
     case' L11n =>
      rintro ⟨c6b0, c6b1⟩ c6 H; obtain rfl := sI H; have M1 := trivial
   case' L9n =>
    rintro ⟨c4b0, c4b1⟩ c4 H; revert H; refine itQ ?L12p ?L12n
    case' L12p =>
     rintro ⟨c5b0, c5b1⟩ H; revert H; refine itQ ?L13p ?L13n
     case' L13p =>
      rintro ⟨c6b0, c6b1⟩ H; obtain rfl := sI H; have M1 := trivial
     case' L13n =>
      rintro ⟨c6b0, c6b1⟩ c6 H; obtain rfl := sI H; have M1 := trivial
    case' L12n =>
     rintro ⟨c5b0, c5b1⟩ c5 H; obtain rfl := sI H; have M1 := trivial
 all_goals
  case _ =>
   go_enter Tryz.func129, Tryz.ntmps129; go_wp2_with (first | ((with_reducible refine gate_dst (N := 1) rfl ?_); (try (refine gate_guard (by rfl) ?_; dsimp only)); refine boxB 1 #[.int .i64 a0_0, .int .i64 a0_1, .string a0_2] 138 HB ?_; clear HB; intro gb385 w101 BK385 GW385 GE385 HB; obtain ⟨hcz102_0, hcz102_1, hcz102_2⟩ := cel3 BK385.out; obtain ⟨hfz102_0, hfz102_1, hfz102_2⟩ := frz3 BK385.out; apply stopA; (case other => exact trivial)))
   case _ =>
    first
     | clear M1
       (try go_wp2_with (fail))
       go_ret; exact ⟨endA, bwA⟩
     | clear M2
       (try go_wp2_with (first | (go_at_call 141; (with_reducible refine (R02_Valid.calls _ _ _ _ A6.out).mono ?_); rintro e w103 ⟨rfl, hb⟩; replace BK385 := aM (bkB BK385 hb); replace HB := aM (below_step (bwA) hb); (try clear hb)))); go_ret; exact ⟨endA, bwA⟩
def R02_Small.f (a0 : Int) : Option (Int) := if a0 ≥ 65 then (if a0 ≤ 90 then (some (wrap64 (a0 + 32))) else (if a0 ≥ 192 then (if a0 ≤ 222 then (if a0 = 215 then (if a0 ≥ 913 then (if a0 ≤ 937 then (if a0 = 930 then (if a0 ≥ 1040 then (if a0 ≤ 1071 then (some (wrap64 (a0 + 32))) else (some a0)) else (some a0)) else (some (wrap64 (a0 + 32)))) else (if a0 ≥ 1040 then (if a0 ≤ 1071 then (some (wrap64 (a0 + 32))) else (some a0)) else (some a0))) else (if a0 ≥ 1040 then (if a0 ≤ 1071 then (some (wrap64 (a0 + 32))) else (some a0)) else (some a0))) else (some (wrap64 (a0 + 32)))) else (if a0 ≥ 913 then (if a0 ≤ 937 then (if a0 = 930 then (if a0 ≥ 1040 then (if a0 ≤ 1071 then (some (wrap64 (a0 + 32))) else (some a0)) else (some a0)) else (some (wrap64 (a0 + 32)))) else (if a0 ≥ 1040 then (if a0 ≤ 1071 then (some (wrap64 (a0 + 32))) else (some a0)) else (some a0))) else (if a0 ≥ 1040 then (if a0 ≤ 1071 then (some (wrap64 (a0 + 32))) else (some a0)) else (some a0)))) else (if a0 ≥ 913 then (if a0 ≤ 937 then (if a0 = 930 then (if a0 ≥ 1040 then (if a0 ≤ 1071 then (some (wrap64 (a0 + 32))) else (some a0)) else (some a0)) else (some (wrap64 (a0 + 32)))) else (if a0 ≥ 1040 then (if a0 ≤ 1071 then (some (wrap64 (a0 + 32))) else (some a0)) else (some a0))) else (if a0 ≥ 1040 then (if a0 ≤ 1071 then (some (wrap64 (a0 + 32))) else (some a0)) else (some a0))))) else (if a0 ≥ 192 then (if a0 ≤ 222 then (if a0 = 215 then (if a0 ≥ 913 then (if a0 ≤ 937 then (if a0 = 930 then (if a0 ≥ 1040 then (if a0 ≤ 1071 then (some (wrap64 (a0 + 32))) else (some a0)) else (some a0)) else (some (wrap64 (a0 + 32)))) else (if a0 ≥ 1040 then (if a0 ≤ 1071 then (some (wrap64 (a0 + 32))) else (some a0)) else (some a0))) else (if a0 ≥ 1040 then (if a0 ≤ 1071 then (some (wrap64 (a0 + 32))) else (some a0)) else (some a0))) else (some (wrap64 (a0 + 32)))) else (if a0 ≥ 913 then (if a0 ≤ 937 then (if a0 = 930 then (if a0 ≥ 1040 then (if a0 ≤ 1071 then (some (wrap64 (a0 + 32))) else (some a0)) else (some a0)) else (some (wrap64 (a0 + 32)))) else (if a0 ≥ 1040 then (if a0 ≤ 1071 then (some (wrap64 (a0 + 32))) else (some a0)) else (some a0))) else (if a0 ≥ 1040 then (if a0 ≤ 1071 then (some (wrap64 (a0 + 32))) else (some a0)) else (some a0)))) else (if a0 ≥ 913 then (if a0 ≤ 937 then (if a0 = 930 then (if a0 ≥ 1040 then (if a0 ≤ 1071 then (some (wrap64 (a0 + 32))) else (some a0)) else (some a0)) else (some (wrap64 (a0 + 32)))) else (if a0 ≥ 1040 then (if a0 ≤ 1071 then (some (wrap64 (a0 + 32))) else (some a0)) else (some a0))) else (if a0 ≥ 1040 then (if a0 ≤ 1071 then (some (wrap64 (a0 + 32))) else (some a0)) else (some a0))))
theorem R02_Small.calls (a0 : Int) (r : Int) (w : World) (h : R02_Small.f a0 = some r) :
  Calls Tryz.prog 218 #[.int .i64 a0] w fun e w' => e = .returned (.int .i64 r) ∧ Drawn0 w w' := by
 unfold R02_Small.f at h; have H := h; clear h; revert H; refine itR ?L1p ?L1n
 case' L1p =>
  intro c2 H; have c2b0 := geT c2; clear c2; revert H; refine itR ?L2p ?L2n
  case' L2p =>
   intro c3 H; have c3b0 := dT c3; clear c3; obtain rfl := sI H
  case' L2n =>
   intro c3 H; have c3b0 := dF c3; clear c3; revert H; refine itR ?L3p ?L3n
   case' L3p =>
    intro c4 H; have c4b0 := geT c4; clear c4; revert H; refine itR ?L4p ?L4n
    case' L4p =>
     intro c5 H; have c5b0 := dT c5; clear c5; revert H; refine itQ ?L5p ?L5n
     case' L5p =>
      rintro ⟨c6b0, c6b1⟩ H; revert H; refine itR ?L6p ?L6n
      case' L6p =>
       intro c7 H; have c7b0 := geT c7; clear c7; revert H; refine itR ?L7p ?L7n
       case' L7p =>
        intro c8 H; have c8b0 := dT c8; clear c8; revert H; refine itQ ?L8p ?L8n
        case' L8p =>
         rintro ⟨c9b0, c9b1⟩ H; revert H; refine itR ?L9p ?L9n
         case' L9p =>
          intro c10 H; have c10b0 := geT c10; clear c10; revert H; refine itR ?L10p ?L10n
          case' L10p =>
           intro c11 H; have c11b0 := dT c11; clear c11; obtain rfl := sI H
          case' L10n =>
           intro c11 H; have c11b0 := dF c11; clear c11; obtain rfl := sI H
         case' L9n =>
          intro c10 H; have c10b0 := geF c10; clear c10; obtain rfl := sI H
        case' L8n =>
         rintro ⟨c9b0, c9b1⟩ c9 H; obtain rfl := sI H
       case' L7n =>
        intro c8 H; have c8b0 := dF c8; clear c8; revert H; refine itR ?L11p ?L11n
        case' L11p =>
         intro c9 H; have c9b0 := geT c9; clear c9; revert H; refine itR ?L12p ?L12n
         case' L12p =>
          intro c10 H; have c10b0 := dT c10; clear c10; obtain rfl := sI H
         case' L12n =>
          intro c10 H; have c10b0 := dF c10; clear c10; obtain rfl := sI H
        case' L11n =>
         intro c9 H; have c9b0 := geF c9; clear c9; obtain rfl := sI H
      case' L6n =>
       intro c7 H; have c7b0 := geF c7; clear c7; revert H; refine itR ?L13p ?L13n
       case' L13p =>
        intro c8 H; have c8b0 := geT c8; clear c8; revert H; refine itR ?L14p ?L14n
        case' L14p =>
         intro c9 H; have c9b0 := dT c9; clear c9; obtain rfl := sI H
        case' L14n =>
         intro c9 H; have c9b0 := dF c9; clear c9; obtain rfl := sI H
       case' L13n =>
        intro c8 H; have c8b0 := geF c8; clear c8; obtain rfl := sI H
     case' L5n =>
      rintro ⟨c6b0, c6b1⟩ c6 H; obtain rfl := sI H
    case' L4n =>
     intro c5 H; have c5b0 := dF c5; clear c5; revert H; refine itR ?L15p ?L15n
     case' L15p =>
      intro c6 H; have c6b0 := geT c6; clear c6; revert H; refine itR ?L16p ?L16n
      case' L16p =>
       intro c7 H; have c7b0 := dT c7; clear c7; revert H; refine itQ ?L17p ?L17n
       case' L17p =>
        rintro ⟨c8b0, c8b1⟩ H; revert H; refine itR ?L18p ?L18n
        case' L18p =>
         intro c9 H; have c9b0 := geT c9; clear c9; revert H; refine itR ?L19p ?L19n
         case' L19p =>
          intro c10 H; have c10b0 := dT c10; clear c10; obtain rfl := sI H
         case' L19n =>
          intro c10 H; have c10b0 := dF c10; clear c10; obtain rfl := sI H
        case' L18n =>
         intro c9 H; have c9b0 := geF c9; clear c9; obtain rfl := sI H
       case' L17n =>
        rintro ⟨c8b0, c8b1⟩ c8 H; obtain rfl := sI H
      case' L16n =>
       intro c7 H; have c7b0 := dF c7; clear c7; revert H; refine itR ?L20p ?L20n
       case' L20p =>
        intro c8 H; have c8b0 := geT c8; clear c8; revert H; refine itR ?L21p ?L21n
        case' L21p =>
         intro c9 H; have c9b0 := dT c9; clear c9; obtain rfl := sI H
        case' L21n =>
         intro c9 H; have c9b0 := dF c9; clear c9; obtain rfl := sI H
       case' L20n =>
        intro c8 H; have c8b0 := geF c8; clear c8; obtain rfl := sI H
     case' L15n =>
      intro c6 H; have c6b0 := geF c6; clear c6; revert H; refine itR ?L22p ?L22n
      case' L22p =>
       intro c7 H; have c7b0 := geT c7; clear c7; revert H; refine itR ?L23p ?L23n
       case' L23p =>
        intro c8 H; have c8b0 := dT c8; clear c8; obtain rfl := sI H
       case' L23n =>
        intro c8 H; have c8b0 := dF c8; clear c8; obtain rfl := sI H
      case' L22n =>
       intro c7 H; have c7b0 := geF c7; clear c7; obtain rfl := sI H
   case' L3n =>
    intro c4 H; have c4b0 := geF c4; clear c4; revert H; refine itR ?L24p ?L24n
    case' L24p =>
     intro c5 H; have c5b0 := geT c5; clear c5; revert H; refine itR ?L25p ?L25n
     case' L25p =>
      intro c6 H; have c6b0 := dT c6; clear c6; revert H; refine itQ ?L26p ?L26n
      case' L26p =>
       rintro ⟨c7b0, c7b1⟩ H; revert H; refine itR ?L27p ?L27n
       case' L27p =>
        intro c8 H; have c8b0 := geT c8; clear c8; revert H; refine itR ?L28p ?L28n
        case' L28p =>
         intro c9 H; have c9b0 := dT c9; clear c9; obtain rfl := sI H
        case' L28n =>
         intro c9 H; have c9b0 := dF c9; clear c9; obtain rfl := sI H
       case' L27n =>
        intro c8 H; have c8b0 := geF c8; clear c8; obtain rfl := sI H
      case' L26n =>
       rintro ⟨c7b0, c7b1⟩ c7 H; obtain rfl := sI H
     case' L25n =>
      intro c6 H; have c6b0 := dF c6; clear c6; revert H; refine itR ?L29p ?L29n
      case' L29p =>
       intro c7 H; have c7b0 := geT c7; clear c7; revert H; refine itR ?L30p ?L30n
       case' L30p =>
        intro c8 H; have c8b0 := dT c8; clear c8; obtain rfl := sI H
       case' L30n =>
        intro c8 H; have c8b0 := dF c8; clear c8; obtain rfl := sI H
      case' L29n =>
       intro c7 H; have c7b0 := geF c7; clear c7; obtain rfl := sI H
    case' L24n =>
     intro c5 H; have c5b0 := geF c5; clear c5; revert H; refine itR ?L31p ?L31n
     case' L31p =>
      intro c6 H; have c6b0 := geT c6; clear c6; revert H; refine itR ?L32p ?L32n
      case' L32p =>
       intro c7 H; have c7b0 := dT c7; clear c7; obtain rfl := sI H
      case' L32n =>
       intro c7 H; have c7b0 := dF c7; clear c7; obtain rfl := sI H
     case' L31n =>
      intro c6 H; have c6b0 := geF c6; clear c6; obtain rfl := sI H
 case' L1n =>
  intro c2 H; have c2b0 := geF c2; clear c2; revert H; refine itR ?L33p ?L33n
  case' L33p =>
   intro c3 H; have c3b0 := geT c3; clear c3; revert H; refine itR ?L34p ?L34n
   case' L34p =>
    intro c4 H; have c4b0 := dT c4; clear c4; revert H; refine itQ ?L35p ?L35n
    case' L35p =>
     rintro ⟨c5b0, c5b1⟩ H; revert H; refine itR ?L36p ?L36n
     case' L36p =>
      intro c6 H; have c6b0 := geT c6; clear c6; revert H; refine itR ?L37p ?L37n
      case' L37p =>
       intro c7 H; have c7b0 := dT c7; clear c7; revert H; refine itQ ?L38p ?L38n
       case' L38p =>
        rintro ⟨c8b0, c8b1⟩ H; revert H; refine itR ?L39p ?L39n
        case' L39p =>
         intro c9 H; have c9b0 := geT c9; clear c9; revert H; refine itR ?L40p ?L40n
         case' L40p =>
          intro c10 H; have c10b0 := dT c10; clear c10; obtain rfl := sI H
         case' L40n =>
          intro c10 H; have c10b0 := dF c10; clear c10; obtain rfl := sI H
        case' L39n =>
         intro c9 H; have c9b0 := geF c9; clear c9; obtain rfl := sI H
       case' L38n =>
        rintro ⟨c8b0, c8b1⟩ c8 H; obtain rfl := sI H
      case' L37n =>
       intro c7 H; have c7b0 := dF c7; clear c7; revert H; refine itR ?L41p ?L41n
       case' L41p =>
        intro c8 H; have c8b0 := geT c8; clear c8; revert H; refine itR ?L42p ?L42n
        case' L42p =>
         intro c9 H; have c9b0 := dT c9; clear c9; obtain rfl := sI H
        case' L42n =>
         intro c9 H; have c9b0 := dF c9; clear c9; obtain rfl := sI H
       case' L41n =>
        intro c8 H; have c8b0 := geF c8; clear c8; obtain rfl := sI H
     case' L36n =>
      intro c6 H; have c6b0 := geF c6; clear c6; revert H; refine itR ?L43p ?L43n
      case' L43p =>
       intro c7 H; have c7b0 := geT c7; clear c7; revert H; refine itR ?L44p ?L44n
       case' L44p =>
        intro c8 H; have c8b0 := dT c8; clear c8; obtain rfl := sI H
       case' L44n =>
        intro c8 H; have c8b0 := dF c8; clear c8; obtain rfl := sI H
      case' L43n =>
       intro c7 H; have c7b0 := geF c7; clear c7; obtain rfl := sI H
    case' L35n =>
     rintro ⟨c5b0, c5b1⟩ c5 H; obtain rfl := sI H
   case' L34n =>
    intro c4 H; have c4b0 := dF c4; clear c4; revert H; refine itR ?L45p ?L45n
    case' L45p =>
     intro c5 H; have c5b0 := geT c5; clear c5; revert H; refine itR ?L46p ?L46n
     case' L46p =>
      intro c6 H; have c6b0 := dT c6; clear c6; revert H; refine itQ ?L47p ?L47n
      case' L47p =>
       rintro ⟨c7b0, c7b1⟩ H; revert H; refine itR ?L48p ?L48n
       case' L48p =>
        intro c8 H; have c8b0 := geT c8; clear c8; revert H; refine itR ?L49p ?L49n
        case' L49p =>
         intro c9 H; have c9b0 := dT c9; clear c9; obtain rfl := sI H
        case' L49n =>
         intro c9 H; have c9b0 := dF c9; clear c9; obtain rfl := sI H
       case' L48n =>
        intro c8 H; have c8b0 := geF c8; clear c8; obtain rfl := sI H
      case' L47n =>
       rintro ⟨c7b0, c7b1⟩ c7 H; obtain rfl := sI H
     case' L46n =>
      intro c6 H; have c6b0 := dF c6; clear c6; revert H; refine itR ?L50p ?L50n
      case' L50p =>
       intro c7 H; have c7b0 := geT c7; clear c7; revert H; refine itR ?L51p ?L51n
       case' L51p =>
        intro c8 H; have c8b0 := dT c8; clear c8; obtain rfl := sI H
       case' L51n =>
        intro c8 H; have c8b0 := dF c8; clear c8; obtain rfl := sI H
      case' L50n =>
       intro c7 H; have c7b0 := geF c7; clear c7; obtain rfl := sI H
    case' L45n =>
     intro c5 H; have c5b0 := geF c5; clear c5; revert H; refine itR ?L52p ?L52n
     case' L52p =>
      intro c6 H; have c6b0 := geT c6; clear c6; revert H; refine itR ?L53p ?L53n
      case' L53p =>
       intro c7 H; have c7b0 := dT c7; clear c7; obtain rfl := sI H
      case' L53n =>
       intro c7 H; have c7b0 := dF c7; clear c7; obtain rfl := sI H
     case' L52n =>
      intro c6 H; have c6b0 := geF c6; clear c6; obtain rfl := sI H
  case' L33n =>
   intro c3 H; have c3b0 := geF c3; clear c3; revert H; refine itR ?L54p ?L54n
   case' L54p =>
    intro c4 H; have c4b0 := geT c4; clear c4; revert H; refine itR ?L55p ?L55n
    case' L55p =>
     intro c5 H; have c5b0 := dT c5; clear c5; revert H; refine itQ ?L56p ?L56n
     case' L56p =>
      rintro ⟨c6b0, c6b1⟩ H; revert H; refine itR ?L57p ?L57n
      case' L57p =>
       intro c7 H; have c7b0 := geT c7; clear c7; revert H; refine itR ?L58p ?L58n
       case' L58p =>
        intro c8 H; have c8b0 := dT c8; clear c8; obtain rfl := sI H
       case' L58n =>
        intro c8 H; have c8b0 := dF c8; clear c8; obtain rfl := sI H
      case' L57n =>
       intro c7 H; have c7b0 := geF c7; clear c7; obtain rfl := sI H
     case' L56n =>
      rintro ⟨c6b0, c6b1⟩ c6 H; obtain rfl := sI H
    case' L55n =>
     intro c5 H; have c5b0 := dF c5; clear c5; revert H; refine itR ?L59p ?L59n
     case' L59p =>
      intro c6 H; have c6b0 := geT c6; clear c6; revert H; refine itR ?L60p ?L60n
      case' L60p =>
       intro c7 H; have c7b0 := dT c7; clear c7; obtain rfl := sI H
      case' L60n =>
       intro c7 H; have c7b0 := dF c7; clear c7; obtain rfl := sI H
     case' L59n =>
      intro c6 H; have c6b0 := geF c6; clear c6; obtain rfl := sI H
   case' L54n =>
    intro c4 H; have c4b0 := geF c4; clear c4; revert H; refine itR ?L61p ?L61n
    case' L61p =>
     intro c5 H; have c5b0 := geT c5; clear c5; revert H; refine itR ?L62p ?L62n
     case' L62p =>
      intro c6 H; have c6b0 := dT c6; clear c6; obtain rfl := sI H
     case' L62n =>
      intro c6 H; have c6b0 := dF c6; clear c6; obtain rfl := sI H
    case' L61n =>
     intro c5 H; have c5b0 := geF c5; clear c5; obtain rfl := sI H
 all_goals
  case _ =>
   go_enter Tryz.func218, Tryz.ntmps218; go_wp2; go_ret; exact ⟨endS, drA⟩
def R02_Fold.l0 : Nat → List Int → ByteArray → Int → Option (ByteArray)
 | 0, _, _, _ => none
 | k + 1, x3, x4, x5 => if x5 < (x3.length : Int) then (if 0 ≤ x5 then ((R02_Small.f (rd x3 x5)).bind fun t392 => ((R02_Bytes.f t392).bind fun t393 => (if x4.size + t393.size ≤ 9223372036854775807 then (R02_Fold.l0 k x3 (x4 ++ t393) (wrap64 (x5 + 1))) else (none)))) else (none)) else (some x4)
def R02_Fold.f (k : Nat) (a0 : ByteArray) : Option (ByteArray) := (R02_Valid.f k a0).bind fun t387 => (if t387 = true then ((R02_Runes.f k a0).bind fun t388 => (R02_Fold.l0 k t388 (⟨#[]⟩ : ByteArray) 0)) else (some a0))
theorem R02_Fold.mono_l : ∀ k, (∀ y0 y1 y2, LeO (R02_Fold.l0 k y0 y1 y2) (R02_Fold.l0 (k + 1) y0 y1 y2))
 | 0 => fun _ _ _ r h => by simp [R02_Fold.l0] at h
 | k + 1 => by
  have ih0 := R02_Fold.mono_l k
  ·intro y0 y1 y2
   unfold R02_Fold.l0
   repeat' (with_reducible first | exact ih0 _ _ _ | exact R02_Runes.mono _ _ | exact R02_Valid.mono _ _ | exact LeO.refl _ | exact LeO.none _ | refine LeO.ite ?_ ?_ | refine LeO.bind ?_ (fun _ => ?_))
theorem R02_Fold.mono : ∀ a0 k, LeO (R02_Fold.f k a0) (R02_Fold.f (k + 1) a0) := by
 intro a0 k; have ih0 := R02_Fold.mono_l k; unfold R02_Fold.f
 repeat' (with_reducible first | exact ih0 _ _ _ | exact R02_Runes.mono _ _ | exact R02_Valid.mono _ _ | exact LeO.refl _ | exact LeO.none _ | refine LeO.ite ?_ ?_ | refine LeO.bind ?_ (fun _ => ?_))
theorem R02_Fold.calls (k : Nat) (a0 : ByteArray) (r : ByteArray) (w : World) (h : R02_Fold.f k a0 = some r) :
  Calls Tryz.prog 164 #[.string a0] w fun e w' => e = .returned (.string r) ∧ Below w.heap.size w w' := by
 have HB := aM (Below.refl w.heap.size w); unfold R02_Fold.f at h; have H := h; clear h; replace H := bnA H; obtain ⟨t387, A2, H⟩ := H; revert H; refine itR ?L6p ?L6n
 case' L6p =>
  intro c3 H; subst c3; replace H := bnA H; obtain ⟨t388, A4, H⟩ := H; have H' := aM H; clear H; have M4 := trivial
 case' L6n =>
  intro c3 H; replace c3 := Bool.eq_false_iff.mpr c3; subst c3; obtain rfl := sI H; have M5 := trivial
 all_goals
  case _ =>
   go_enter Tryz.func164, Tryz.ntmps164; go_wp2_with (first | ((with_reducible refine gate_callee (f := 141) rfl ?_); refine goesA (some 7) Tryz.func141 #[.string a0] ?_; (with_reducible refine (R02_Valid.calls _ _ _ _ A2.out).mono ?_); rintro e w101 ⟨rfl, hb⟩; refine ⟨_, rfl, ?_⟩; replace HB := aM (below_step (bwA) hb); (try clear hb); apply stopA; (case other => exact trivial)))
   case _ =>
    first
     | clear M4
       try go_wp2_with (first | ((with_reducible refine gate_callee (f := 142) rfl ?_); refine goesA (some 11) Tryz.func142 #[.string a0] ?_; (with_reducible refine (R02_Runes.calls _ _ _ _ A4.out).mono ?_); rintro e w102 ⟨v389, rfl, ho0, hb⟩; refine ⟨_, rfl, ?_⟩; have HO390 := aM (Kd.R_lower ho0 (below_size (bwA))); replace HB := aM (below_step (bwA) hb); (try clear hb); (try clear ho0)))
       go_loopg [4, 5] k (fun kq v4 v5 w' => ∃ (x4_1 : ByteArray) (x5_1 : Int), v4 = .string x4_1 ∧ v5 = .int .i64 x5_1 ∧ Aside0 (R02_Fold.l0 kq t388 x4_1 x5_1 = some r) ∧ Aside0 (kq ≤ k) ∧ Aside0 (Kd.R (Kd.int .i64) 3 w' w.heap.size (fun _ => True) v389 t388) ∧ Aside0 (Below w.heap.size w w'))
       case atStart => exact ⟨((⟨#[]⟩ : ByteArray)), (0), (endS), (endS), H', ⟨Nat.le_refl _⟩, ⟨by (with_reducible repeat (first | apply Kd.R_alloc | apply Kd.R_drewN | apply Kd.R_drew)); exact HO390.out⟩, ⟨bwA⟩⟩
       case round =>
        clear H'; (try clear c1); (try clear p2); (try clear c3); (try clear c14); (try clear c16); obtain ⟨x4_1, x5_1, rfl, rfl, HA, HK1, HO_3, HB⟩ := hrel
        cases gk with
        | zero => exact absurd HA.out (by simp [R02_Fold.l0])
        | succ k1 =>
         have H := HA.out; clear HA; simp only [R02_Fold.l0] at H; revert H; refine itR ?L3p ?L3n
         case' L3p =>
          intro c103 H; have c103b0 := dT c103; clear c103; replace H := itN H; obtain ⟨c104, H⟩ := H; have c104b0 := dT c104; clear c104; replace H := bnA H; obtain ⟨t392, A105, H⟩ := H; replace H := bnA H; obtain ⟨t393, A106, H⟩ := H; replace H := itN H; obtain ⟨c107, H⟩ := H; have c107b0 := eq_true c107; have c107b1 := dT c107; (try have c107b2 : (9223372036854775807 < x4_1.size + t393.size) = False := eq_false (Nat.not_lt.2 c107)); have H' := aM H; clear H; have M1 := trivial
         case' L3n =>
          intro c103 H; have c103b0 := dF c103; clear c103; obtain rfl := sI H; have M2 := trivial
         all_goals
          case _ =>
           obtain ⟨Ao201, co201, eo201⟩ := Kd.R_slice HO_3.out; subst eo201
           first
            | clear M1
              have p391 : 0 ≤ (x5_1 : Int) := odA; have q391 : x5_1 < (t388.length : Int) := odA; obtain ⟨ad391, e391, hx391_0⟩ := Kd.at_int (Kd.R_reads' HO_3.out).2.2 x5_1 p391 q391
              cases e391
              replace p391 := eq_true p391; replace q391 := eq_true q391; try go_wp2_with (first | ((with_reducible refine gate_callee (f := 218) rfl ?_); refine goesA (some 23) Tryz.func218 #[.int .i64 (rd t388 x5_1)] ?_; (with_reducible refine (R02_Small.calls _ _ _ A105.out).mono ?_); rintro e w' ⟨rfl, ⟨nd, rfl⟩⟩; refine ⟨_, rfl, ?_⟩) | ((with_reducible refine gate_callee (f := 217) rfl ?_); refine goesA (some 24) Tryz.func217 #[.int .i64 t392] ?_; (with_reducible refine (R02_Bytes.calls _ _ _ A106.out).mono ?_); rintro e w202 ⟨rfl, hb⟩; refine ⟨_, rfl, ?_⟩; replace HO_3 := aM (Kd.R_below (raA HO_3.out) hb); replace HB := aM (below_step (bwA) hb); (try clear hb)))
              go_roundg k1
              case measure => have := HK1.out; omega
              case rel => exact ⟨(x4_1 ++ t393), (wrap64 (x5_1 + 1)), (endS), (endS), H', ⟨by have := HK1.out; omega⟩, ⟨by (with_reducible repeat (first | apply Kd.R_alloc | apply Kd.R_drewN | apply Kd.R_drew)); exact HO_3.out⟩, ⟨bwA⟩⟩
            | clear M2
              go_wp2; go_ret; exact ⟨endA, bwA⟩
     | clear M5
       (try go_wp2_with (fail))
       go_ret; exact ⟨endA, bwA⟩
def cmpI : List Int → List Int → Int
 | [], [] => 0
 | [], _ :: _ => -1
 | _ :: _, [] => 1
 | a :: x, b :: y => if a < b then -1 else if b < a then 1 else cmpI x y
def R02_Compare.f (k : Nat) (a0 : ByteArray) (a1 : ByteArray) : Option Int := (R02_Fold.f k a0).bind fun x => (R02_Fold.f k a1).bind fun y => (R02_Valid.f k x).bind fun u => (R02_Valid.f k y).bind fun v => if u = true then (if v = true then (R02_Runes.f k x).bind fun l => (R02_Runes.f k y).bind fun m => some (cmpI l m) else none) else none
theorem R02_Compare.mono : ∀ a0 a1 k, LeO (R02_Compare.f k a0 a1) (R02_Compare.f (k + 1) a0 a1) := by
 intro a0 a1 k; unfold R02_Compare.f
 repeat' (with_reducible first | exact R02_Fold.mono _ _ | exact R02_Valid.mono _ _ | exact R02_Runes.mono _ _ | exact LeO.refl _ | exact LeO.none _ | refine LeO.ite ?_ ?_ | refine LeO.bind ?_ (fun _ => ?_))
theorem cmpI_drop (l m : List Int) (i : Nat) (hi : i < l.length) (hm : i < m.length) : cmpI (l.drop i) (m.drop i) = if l[i] < m[i] then -1 else if m[i] < l[i] then 1 else cmpI (l.drop (i + 1)) (m.drop (i + 1)) := by
 rw [List.drop_eq_getElem_cons hi, List.drop_eq_getElem_cons hm, cmpI]
theorem cmpI_end (l m : List Int) (i : Nat) (h1 : i ≤ l.length) (h2 : i ≤ m.length) (h : ¬ (i < l.length ∧ i < m.length)) : cmpI (l.drop i) (m.drop i) = if l.length < m.length then -1 else if m.length < l.length then 1 else 0 := by
 by_cases c1 : i < l.length
 ·have c2 : i = m.length := by omega
  rw [List.drop_eq_getElem_cons c1, List.drop_of_length_le (show m.length ≤ i by omega), if_neg (by omega), if_pos (by omega), cmpI]
 ·by_cases c2 : i < m.length
  ·rw [List.drop_eq_getElem_cons c2, List.drop_of_length_le (show l.length ≤ i by omega), if_pos (by omega), cmpI]
  ·rw [List.drop_of_length_le (show l.length ≤ i by omega), List.drop_of_length_le (show m.length ≤ i by omega), if_neg (by omega), if_neg (by omega), cmpI]
theorem R02_Compare.calls (k : Nat) (a0 : ByteArray) (a1 : ByteArray) (r : Int) (w : World) (h : R02_Compare.f k a0 a1 = some r) :
  Calls Tryz.prog 130 #[.string a0, .string a1] w fun e w' => e = .returned (.int .i64 r) ∧ Below w.heap.size w w' := by
 unfold R02_Compare.f at h; obtain ⟨x, hx, h⟩ := Option.bind_eq_some_iff.1 h; obtain ⟨y, hy, h⟩ := Option.bind_eq_some_iff.1 h; obtain ⟨u, hu, h⟩ := Option.bind_eq_some_iff.1 h; obtain ⟨v, hv, h⟩ := Option.bind_eq_some_iff.1 h
 cases u with
 | false => simp at h
 | true =>
  cases v with
  | false => simp at h
  | true =>
   rw [if_pos rfl, if_pos rfl] at h; obtain ⟨l, hl, h⟩ := Option.bind_eq_some_iff.1 h; obtain ⟨m, hm, h⟩ := Option.bind_eq_some_iff.1 h; have hr := sI h; have cX := fun W => R02_Fold.calls k a0 x W hx
   have cY := fun W => R02_Fold.calls k a1 y W hy
   have cU := fun W => R02_Valid.calls k x true W hu
   have cV := fun W => R02_Valid.calls k y true W hv
   have cL := fun W => R02_Runes.calls k x l W hl
   have cM := fun W => R02_Runes.calls k y m W hm
   have HR := aM hr; clear h hx hy hu hv hl hm hr; go_enter Tryz.func130, Tryz.ntmps130; go_wp2_with (first | (go_at_call_of 164 (Value.string a0); refine (cX _).mono ?_; rintro e w1 ⟨rfl, hb1⟩) | (go_at_call_of 164 (Value.string a1); refine (cY _).mono ?_; rintro e w2 ⟨rfl, hb2⟩; have hB2 := hb1.trans (hb2.mono hb1.size)) | (go_at_call_of 141 (Value.string x); refine (cU _).mono ?_; rintro e w3 ⟨rfl, hb3⟩; have hB3 := hB2.trans (hb3.mono hB2.size)) | (go_at_call_of 141 (Value.string y); refine (cV _).mono ?_; rintro e w4 ⟨rfl, hb4⟩; have hB4 := hB3.trans (hb4.mono hB3.size)) | (go_at_call_of 142 (Value.string x); refine (cL _).mono ?_; rintro e w5 ⟨vl, rfl, hR5, hb5⟩; have hB5 := hB4.trans (hb5.mono hB4.size); obtain ⟨Al, cl, rfl, _, hC5⟩ := Kd.R_reads hR5; clear hR5) | (go_at_call_of 142 (Value.string y); refine (cM _).mono ?_; rintro e w6 ⟨vm, rfl, hR6, hb6⟩; have hB6 := hB5.trans (hb6.mono hB5.size); obtain ⟨Am, cm, rfl, _, hC6⟩ := Kd.R_reads hR6; clear hR6; have hC7 := Kd.C_below hC5 hb6)); clear cX cY cU cV cL cM hb1 hb2 hb3 hb4 hb5 hb6 hC5; have hll : l.length ≤ 9223372036854775807 := hC7.2.1; have hml : m.length ≤ 9223372036854775807 := hC6.2.1; have HC6 := aM hC6; have HC7 := aM hC7; clear hC6 hC7
   go_loopg [11] l.length (fun gg v11 wr => ∃ i : Nat, i ≤ l.length ∧ i ≤ m.length ∧ l.length - i ≤ gg ∧ v11 = .int .i64 i ∧ Aside (Below w6.heap.size w6 wr) ∧ Aside (cmpI (l.drop i) (m.drop i) = r))
   case atStart => exact ⟨0, Nat.zero_le _, Nat.zero_le _, by omega, rfl, Below.refl _ _, by have := HR.out; exact this⟩
   case round =>
    obtain ⟨i, hi1, hi2, hg, rfl, BW, A⟩ := hrel; have h6 := BW.out; have hB : Below w.heap.size w wr := hB6.trans (h6.mono hB6.size); clear BW
    by_cases hl1 : i < l.length
    ·have hlz : (i : Int) < (l.length : Int) := by omega
     by_cases hm1 : i < m.length
     ·have hmz : (i : Int) < (m.length : Int) := by omega
      obtain ⟨bl, ol, rfl, _, hcl⟩ := Kd.C_addr (Kd.C_below HC7.out h6) (by omega) (by decide); obtain ⟨bm, om, rfl, _, hcm⟩ := Kd.C_addr (Kd.C_below HC6.out h6) (by omega) (by decide)
      have z1 : wr.cell? ⟨bl, ol + i, none⟩ = some (.int .i64 l[i]) := by
       obtain ⟨cs, c1, c2, c3⟩ := hcl i l[i] (List.getElem?_eq_getElem hl1); have e : cs = [.int .i64 l[i]] := c2; have := c3 0 (.int .i64 l[i]) (by rw [e]; rfl)
       simpa [Kd.int, Kd.scalar] using this
      have z2 : wr.cell? ⟨bm, om + i, none⟩ = some (.int .i64 m[i]) := by
       obtain ⟨cs, c1, c2, c3⟩ := hcm i m[i] (List.getElem?_eq_getElem hm1); have e : cs = [.int .i64 m[i]] := c2; have := c3 0 (.int .i64 m[i]) (by rw [e]; rfl)
       simpa [Kd.int, Kd.scalar] using this
      have hA := A.out; rw [cmpI_drop l m i hl1 hm1] at hA
      generalize l[i] = p at z1 hA
      generalize m[i] = q at z2 hA
      clear hcl hcm A; have hpos : (0 : Int) ≤ (i : Int) := by omega
      by_cases h1 : p < q
      ·rw [if_pos h1] at hA
       subst hA; go_wp2
       go_quiet (fail)
       go_wp2; go_ret; exact ⟨rfl, by repeat (first | exact hB | apply pw_below_drewN)⟩
      ·rw [if_neg h1] at hA
       by_cases h2 : q < p
       ·rw [if_pos h2] at hA
        subst hA; go_wp2
        go_quiet (fail)
        go_wp2
        go_quiet (fail)
        go_wp2; go_ret; exact ⟨rfl, by repeat (first | exact hB | apply pw_below_drewN)⟩
       ·rw [if_neg h2] at hA
        have HA := aM hA; clear hA; go_wp2
        go_quiet (fail)
        go_wp2
        go_quiet (fail)
        go_wp2
        go_roundg (l.length - (i + 1))
        case measure => omega
        case rel => exact ⟨i + 1, by omega, by omega, by omega, by go_num, (by repeat (first | exact h6 | apply pw_below_drewN)), HA.out⟩
     ·have hmz : ¬ (i : Int) < (m.length : Int) := by omega
      have hA := A.out; rw [cmpI_end l m i hi1 hi2 (by omega), if_neg (by omega), if_pos (by omega)] at hA; subst hA; have k1 : ¬ (l.length : Int) < (m.length : Int) := by omega
      have k2 : (m.length : Int) < (l.length : Int) := by omega
      clear A; go_wp2; go_ret; exact ⟨rfl, hB⟩
    ·have hlz : ¬ (i : Int) < (l.length : Int) := by omega
     have hA := A.out; rw [cmpI_end l m i hi1 hi2 (by omega)] at hA; clear A
     by_cases c1 : l.length < m.length
     ·rw [if_pos c1] at hA
      subst hA; have k1 : (l.length : Int) < (m.length : Int) := by omega
      go_wp2; go_ret; exact ⟨rfl, hB⟩
     ·rw [if_neg c1, if_neg (by omega)] at hA
      subst hA; have k1 : ¬ (l.length : Int) < (m.length : Int) := by omega
      have k2 : ¬ (m.length : Int) < (l.length : Int) := by omega
      go_wp2; go_ret; exact ⟨rfl, hB⟩
end Go.Proofs.YtkdndabpaajkaaaGreatDoor.A
