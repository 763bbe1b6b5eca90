import Derived.Test.YtpjjbaclphoilaaGreatDoorAx0
import Derived.Test.YtpjjbaclphoilaaGreatDoorAx14
namespace Go.Proofs.YtpjjbaclphoilaaGreatDoor.A
open Go.RowKit Go.Proofs.YtpjjbaclphoilaaGreatDoorW.PrintWords Go.Proofs.YtpjjbaclphoilaaGreatDoorW.PrintLast Go.Proofs.YtpjjbaclphoilaaGreatDoorW.PrintMore
attribute [local go_sem] max2_int min2_int max_two min_two max_three min_three max_four min_four   -- for this text's walks alone
set_option linter.unusedVariables false
set_option linter.unusedSimpArgs false
set_option maxHeartbeats 8000000
set_option maxRecDepth 100000
def R02_Small.f (a0 : Int) : Option (Int) := if a0 ≥ 65 then (if a0 ≤ 90 then (some (wrap64 (a0 + 32))) else (if a0 ≥ 192 then (if a0 ≤ 222 then (if a0 = 215 then (if a0 ≥ 913 then (if a0 ≤ 937 then (if a0 = 930 then (if a0 ≥ 1040 then (if a0 ≤ 1071 then (some (wrap64 (a0 + 32))) else (some a0)) else (some a0)) else (some (wrap64 (a0 + 32)))) else (if a0 ≥ 1040 then (if a0 ≤ 1071 then (some (wrap64 (a0 + 32))) else (some a0)) else (some a0))) else (if a0 ≥ 1040 then (if a0 ≤ 1071 then (some (wrap64 (a0 + 32))) else (some a0)) else (some a0))) else (some (wrap64 (a0 + 32)))) else (if a0 ≥ 913 then (if a0 ≤ 937 then (if a0 = 930 then (if a0 ≥ 1040 then (if a0 ≤ 1071 then (some (wrap64 (a0 + 32))) else (some a0)) else (some a0)) else (some (wrap64 (a0 + 32)))) else (if a0 ≥ 1040 then (if a0 ≤ 1071 then (some (wrap64 (a0 + 32))) else (some a0)) else (some a0))) else (if a0 ≥ 1040 then (if a0 ≤ 1071 then (some (wrap64 (a0 + 32))) else (some a0)) else (some a0)))) else (if a0 ≥ 913 then (if a0 ≤ 937 then (if a0 = 930 then (if a0 ≥ 1040 then (if a0 ≤ 1071 then (some (wrap64 (a0 + 32))) else (some a0)) else (some a0)) else (some (wrap64 (a0 + 32)))) else (if a0 ≥ 1040 then (if a0 ≤ 1071 then (some (wrap64 (a0 + 32))) else (some a0)) else (some a0))) else (if a0 ≥ 1040 then (if a0 ≤ 1071 then (some (wrap64 (a0 + 32))) else (some a0)) else (some a0))))) else (if a0 ≥ 192 then (if a0 ≤ 222 then (if a0 = 215 then (if a0 ≥ 913 then (if a0 ≤ 937 then (if a0 = 930 then (if a0 ≥ 1040 then (if a0 ≤ 1071 then (some (wrap64 (a0 + 32))) else (some a0)) else (some a0)) else (some (wrap64 (a0 + 32)))) else (if a0 ≥ 1040 then (if a0 ≤ 1071 then (some (wrap64 (a0 + 32))) else (some a0)) else (some a0))) else (if a0 ≥ 1040 then (if a0 ≤ 1071 then (some (wrap64 (a0 + 32))) else (some a0)) else (some a0))) else (some (wrap64 (a0 + 32)))) else (if a0 ≥ 913 then (if a0 ≤ 937 then (if a0 = 930 then (if a0 ≥ 1040 then (if a0 ≤ 1071 then (some (wrap64 (a0 + 32))) else (some a0)) else (some a0)) else (some (wrap64 (a0 + 32)))) else (if a0 ≥ 1040 then (if a0 ≤ 1071 then (some (wrap64 (a0 + 32))) else (some a0)) else (some a0))) else (if a0 ≥ 1040 then (if a0 ≤ 1071 then (some (wrap64 (a0 + 32))) else (some a0)) else (some a0)))) else (if a0 ≥ 913 then (if a0 ≤ 937 then (if a0 = 930 then (if a0 ≥ 1040 then (if a0 ≤ 1071 then (some (wrap64 (a0 + 32))) else (some a0)) else (some a0)) else (some (wrap64 (a0 + 32)))) else (if a0 ≥ 1040 then (if a0 ≤ 1071 then (some (wrap64 (a0 + 32))) else (some a0)) else (some a0))) else (if a0 ≥ 1040 then (if a0 ≤ 1071 then (some (wrap64 (a0 + 32))) else (some a0)) else (some a0))))
theorem R02_Small.calls (a0 : Int) (r : Int) (w : World) (h : R02_Small.f a0 = some r) :
  Calls Tryz.prog 154 #[.int .i64 a0] w fun e w' => e = .returned (.int .i64 r) ∧ Drawn0 w w' := by
 unfold R02_Small.f at h; have H := h; clear h; revert H; refine itR ?L1p ?L1n
 case' L1p =>
  intro c2 H; have c2b0 := geT c2; clear c2; revert H; refine itR ?L2p ?L2n
  case' L2p =>
   intro c3 H; have c3b0 := dT c3; clear c3; obtain rfl := sI H
  case' L2n =>
   intro c3 H; have c3b0 := dF c3; clear c3; revert H; refine itR ?L3p ?L3n
   case' L3p =>
    intro c4 H; have c4b0 := geT c4; clear c4; revert H; refine itR ?L4p ?L4n
    case' L4p =>
     intro c5 H; have c5b0 := dT c5; clear c5; revert H; refine itQ ?L5p ?L5n
     case' L5p =>
      rintro ⟨c6b0, c6b1⟩ H; revert H; refine itR ?L6p ?L6n
      case' L6p =>
       intro c7 H; have c7b0 := geT c7; clear c7; revert H; refine itR ?L7p ?L7n
       case' L7p =>
        intro c8 H; have c8b0 := dT c8; clear c8; revert H; refine itQ ?L8p ?L8n
        case' L8p =>
         rintro ⟨c9b0, c9b1⟩ H; revert H; refine itR ?L9p ?L9n
         case' L9p =>
          intro c10 H; have c10b0 := geT c10; clear c10; revert H; refine itR ?L10p ?L10n
          case' L10p =>
           intro c11 H; have c11b0 := dT c11; clear c11; obtain rfl := sI H
          case' L10n =>
           intro c11 H; have c11b0 := dF c11; clear c11; obtain rfl := sI H
         case' L9n =>
          intro c10 H; have c10b0 := geF c10; clear c10; obtain rfl := sI H
        case' L8n =>
         rintro ⟨c9b0, c9b1⟩ c9 H; obtain rfl := sI H
       case' L7n =>
        intro c8 H; have c8b0 := dF c8; clear c8; revert H; refine itR ?L11p ?L11n
        case' L11p =>
         intro c9 H; have c9b0 := geT c9; clear c9; revert H; refine itR ?L12p ?L12n
         case' L12p =>
          intro c10 H; have c10b0 := dT c10; clear c10; obtain rfl := sI H
         case' L12n =>
          intro c10 H; have c10b0 := dF c10; clear c10; obtain rfl := sI H
        case' L11n =>
         intro c9 H; have c9b0 := geF c9; clear c9; obtain rfl := sI H
      case' L6n =>
       intro c7 H; have c7b0 := geF c7; clear c7; revert H; refine itR ?L13p ?L13n
       case' L13p =>
        intro c8 H; have c8b0 := geT c8; clear c8; revert H; refine itR ?L14p ?L14n
        case' L14p =>
         intro c9 H; have c9b0 := dT c9; clear c9; obtain rfl := sI H
        case' L14n =>
         intro c9 H; have c9b0 := dF c9; clear c9; obtain rfl := sI H
       case' L13n =>
        intro c8 H; have c8b0 := geF c8; clear c8; obtain rfl := sI H
     case' L5n =>
      rintro ⟨c6b0, c6b1⟩ c6 H; obtain rfl := sI H
    case' L4n =>
     intro c5 H; have c5b0 := dF c5; clear c5; revert H; refine itR ?L15p ?L15n
     case' L15p =>
      intro c6 H; have c6b0 := geT c6; clear c6; revert H; refine itR ?L16p ?L16n
      case' L16p =>
       intro c7 H; have c7b0 := dT c7; clear c7; revert H; refine itQ ?L17p ?L17n
       case' L17p =>
        rintro ⟨c8b0, c8b1⟩ H; revert H; refine itR ?L18p ?L18n
        case' L18p =>
         intro c9 H; have c9b0 := geT c9; clear c9; revert H; refine itR ?L19p ?L19n
         case' L19p =>
          intro c10 H; have c10b0 := dT c10; clear c10; obtain rfl := sI H
         case' L19n =>
          intro c10 H; have c10b0 := dF c10; clear c10; obtain rfl := sI H
        case' L18n =>
         intro c9 H; have c9b0 := geF c9; clear c9; obtain rfl := sI H
       case' L17n =>
        rintro ⟨c8b0, c8b1⟩ c8 H; obtain rfl := sI H
      case' L16n =>
       intro c7 H; have c7b0 := dF c7; clear c7; revert H; refine itR ?L20p ?L20n
       case' L20p =>
        intro c8 H; have c8b0 := geT c8; clear c8; revert H; refine itR ?L21p ?L21n
        case' L21p =>
         intro c9 H; have c9b0 := dT c9; clear c9; obtain rfl := sI H
        case' L21n =>
         intro c9 H; have c9b0 := dF c9; clear c9; obtain rfl := sI H
       case' L20n =>
        intro c8 H; have c8b0 := geF c8; clear c8; obtain rfl := sI H
     case' L15n =>
      intro c6 H; have c6b0 := geF c6; clear c6; revert H; refine itR ?L22p ?L22n
      case' L22p =>
       intro c7 H; have c7b0 := geT c7; clear c7; revert H; refine itR ?L23p ?L23n
       case' L23p =>
        intro c8 H; have c8b0 := dT c8; clear c8; obtain rfl := sI H
       case' L23n =>
        intro c8 H; have c8b0 := dF c8; clear c8; obtain rfl := sI H
      case' L22n =>
       intro c7 H; have c7b0 := geF c7; clear c7; obtain rfl := sI H
   case' L3n =>
    intro c4 H; have c4b0 := geF c4; clear c4; revert H; refine itR ?L24p ?L24n
    case' L24p =>
     intro c5 H; have c5b0 := geT c5; clear c5; revert H; refine itR ?L25p ?L25n
     case' L25p =>
      intro c6 H; have c6b0 := dT c6; clear c6; revert H; refine itQ ?L26p ?L26n
      case' L26p =>
       rintro ⟨c7b0, c7b1⟩ H; revert H; refine itR ?L27p ?L27n
       case' L27p =>
        intro c8 H; have c8b0 := geT c8; clear c8; revert H; refine itR ?L28p ?L28n
        case' L28p =>
         intro c9 H; have c9b0 := dT c9; clear c9; obtain rfl := sI H
        case' L28n =>
         intro c9 H; have c9b0 := dF c9; clear c9; obtain rfl := sI H
       case' L27n =>
        intro c8 H; have c8b0 := geF c8; clear c8; obtain rfl := sI H
      case' L26n =>
       rintro ⟨c7b0, c7b1⟩ c7 H; obtain rfl := sI H
     case' L25n =>
      intro c6 H; have c6b0 := dF c6; clear c6; revert H; refine itR ?L29p ?L29n
      case' L29p =>
       intro c7 H; have c7b0 := geT c7; clear c7; revert H; refine itR ?L30p ?L30n
       case' L30p =>
        intro c8 H; have c8b0 := dT c8; clear c8; obtain rfl := sI H
       case' L30n =>
        intro c8 H; have c8b0 := dF c8; clear c8; obtain rfl := sI H
      case' L29n =>
       intro c7 H; have c7b0 := geF c7; clear c7; obtain rfl := sI H
    case' L24n =>
     intro c5 H; have c5b0 := geF c5; clear c5; revert H; refine itR ?L31p ?L31n
     case' L31p =>
      intro c6 H; have c6b0 := geT c6; clear c6; revert H; refine itR ?L32p ?L32n
      case' L32p =>
       intro c7 H; have c7b0 := dT c7; clear c7; obtain rfl := sI H
      case' L32n =>
       intro c7 H; have c7b0 := dF c7; clear c7; obtain rfl := sI H
     case' L31n =>
      intro c6 H; have c6b0 := geF c6; clear c6; obtain rfl := sI H
 case' L1n =>
  intro c2 H; have c2b0 := geF c2; clear c2; revert H; refine itR ?L33p ?L33n
  case' L33p =>
   intro c3 H; have c3b0 := geT c3; clear c3; revert H; refine itR ?L34p ?L34n
   case' L34p =>
    intro c4 H; have c4b0 := dT c4; clear c4; revert H; refine itQ ?L35p ?L35n
    case' L35p =>
     rintro ⟨c5b0, c5b1⟩ H; revert H; refine itR ?L36p ?L36n
     case' L36p =>
      intro c6 H; have c6b0 := geT c6; clear c6; revert H; refine itR ?L37p ?L37n
      case' L37p =>
       intro c7 H; have c7b0 := dT c7; clear c7; revert H; refine itQ ?L38p ?L38n
       case' L38p =>
        rintro ⟨c8b0, c8b1⟩ H; revert H; refine itR ?L39p ?L39n
        case' L39p =>
         intro c9 H; have c9b0 := geT c9; clear c9; revert H; refine itR ?L40p ?L40n
         case' L40p =>
          intro c10 H; have c10b0 := dT c10; clear c10; obtain rfl := sI H
         case' L40n =>
          intro c10 H; have c10b0 := dF c10; clear c10; obtain rfl := sI H
        case' L39n =>
         intro c9 H; have c9b0 := geF c9; clear c9; obtain rfl := sI H
       case' L38n =>
        rintro ⟨c8b0, c8b1⟩ c8 H; obtain rfl := sI H
      case' L37n =>
       intro c7 H; have c7b0 := dF c7; clear c7; revert H; refine itR ?L41p ?L41n
       case' L41p =>
        intro c8 H; have c8b0 := geT c8; clear c8; revert H; refine itR ?L42p ?L42n
        case' L42p =>
         intro c9 H; have c9b0 := dT c9; clear c9; obtain rfl := sI H
        case' L42n =>
         intro c9 H; have c9b0 := dF c9; clear c9; obtain rfl := sI H
       case' L41n =>
        intro c8 H; have c8b0 := geF c8; clear c8; obtain rfl := sI H
     case' L36n =>
      intro c6 H; have c6b0 := geF c6; clear c6; revert H; refine itR ?L43p ?L43n
      case' L43p =>
       intro c7 H; have c7b0 := geT c7; clear c7; revert H; refine itR ?L44p ?L44n
       case' L44p =>
        intro c8 H; have c8b0 := dT c8; clear c8; obtain rfl := sI H
       case' L44n =>
        intro c8 H; have c8b0 := dF c8; clear c8; obtain rfl := sI H
      case' L43n =>
       intro c7 H; have c7b0 := geF c7; clear c7; obtain rfl := sI H
    case' L35n =>
     rintro ⟨c5b0, c5b1⟩ c5 H; obtain rfl := sI H
   case' L34n =>
    intro c4 H; have c4b0 := dF c4; clear c4; revert H; refine itR ?L45p ?L45n
    case' L45p =>
     intro c5 H; have c5b0 := geT c5; clear c5; revert H; refine itR ?L46p ?L46n
     case' L46p =>
      intro c6 H; have c6b0 := dT c6; clear c6; revert H; refine itQ ?L47p ?L47n
      case' L47p =>
       rintro ⟨c7b0, c7b1⟩ H; revert H; refine itR ?L48p ?L48n
       case' L48p =>
        intro c8 H; have c8b0 := geT c8; clear c8; revert H; refine itR ?L49p ?L49n
        case' L49p =>
         intro c9 H; have c9b0 := dT c9; clear c9; obtain rfl := sI H
        case' L49n =>
         intro c9 H; have c9b0 := dF c9; clear c9; obtain rfl := sI H
       case' L48n =>
        intro c8 H; have c8b0 := geF c8; clear c8; obtain rfl := sI H
      case' L47n =>
       rintro ⟨c7b0, c7b1⟩ c7 H; obtain rfl := sI H
     case' L46n =>
      intro c6 H; have c6b0 := dF c6; clear c6; revert H; refine itR ?L50p ?L50n
      case' L50p =>
       intro c7 H; have c7b0 := geT c7; clear c7; revert H; refine itR ?L51p ?L51n
       case' L51p =>
        intro c8 H; have c8b0 := dT c8; clear c8; obtain rfl := sI H
       case' L51n =>
        intro c8 H; have c8b0 := dF c8; clear c8; obtain rfl := sI H
      case' L50n =>
       intro c7 H; have c7b0 := geF c7; clear c7; obtain rfl := sI H
    case' L45n =>
     intro c5 H; have c5b0 := geF c5; clear c5; revert H; refine itR ?L52p ?L52n
     case' L52p =>
      intro c6 H; have c6b0 := geT c6; clear c6; revert H; refine itR ?L53p ?L53n
      case' L53p =>
       intro c7 H; have c7b0 := dT c7; clear c7; obtain rfl := sI H
      case' L53n =>
       intro c7 H; have c7b0 := dF c7; clear c7; obtain rfl := sI H
     case' L52n =>
      intro c6 H; have c6b0 := geF c6; clear c6; obtain rfl := sI H
  case' L33n =>
   intro c3 H; have c3b0 := geF c3; clear c3; revert H; refine itR ?L54p ?L54n
   case' L54p =>
    intro c4 H; have c4b0 := geT c4; clear c4; revert H; refine itR ?L55p ?L55n
    case' L55p =>
     intro c5 H; have c5b0 := dT c5; clear c5; revert H; refine itQ ?L56p ?L56n
     case' L56p =>
      rintro ⟨c6b0, c6b1⟩ H; revert H; refine itR ?L57p ?L57n
      case' L57p =>
       intro c7 H; have c7b0 := geT c7; clear c7; revert H; refine itR ?L58p ?L58n
       case' L58p =>
        intro c8 H; have c8b0 := dT c8; clear c8; obtain rfl := sI H
       case' L58n =>
        intro c8 H; have c8b0 := dF c8; clear c8; obtain rfl := sI H
      case' L57n =>
       intro c7 H; have c7b0 := geF c7; clear c7; obtain rfl := sI H
     case' L56n =>
      rintro ⟨c6b0, c6b1⟩ c6 H; obtain rfl := sI H
    case' L55n =>
     intro c5 H; have c5b0 := dF c5; clear c5; revert H; refine itR ?L59p ?L59n
     case' L59p =>
      intro c6 H; have c6b0 := geT c6; clear c6; revert H; refine itR ?L60p ?L60n
      case' L60p =>
       intro c7 H; have c7b0 := dT c7; clear c7; obtain rfl := sI H
      case' L60n =>
       intro c7 H; have c7b0 := dF c7; clear c7; obtain rfl := sI H
     case' L59n =>
      intro c6 H; have c6b0 := geF c6; clear c6; obtain rfl := sI H
   case' L54n =>
    intro c4 H; have c4b0 := geF c4; clear c4; revert H; refine itR ?L61p ?L61n
    case' L61p =>
     intro c5 H; have c5b0 := geT c5; clear c5; revert H; refine itR ?L62p ?L62n
     case' L62p =>
      intro c6 H; have c6b0 := dT c6; clear c6; obtain rfl := sI H
     case' L62n =>
      intro c6 H; have c6b0 := dF c6; clear c6; obtain rfl := sI H
    case' L61n =>
     intro c5 H; have c5b0 := geF c5; clear c5; obtain rfl := sI H
 all_goals
  case _ =>
   go_enter Tryz.func154, Tryz.ntmps154; go_wp2; go_ret; exact ⟨endS, drA⟩
def R02_Fold.l0 : Nat → List Int → ByteArray → Int → Option (ByteArray)
 | 0, _, _, _ => none
 | k + 1, x3, x4, x5 => if x5 < (x3.length : Int) then (if 0 ≤ x5 then ((R02_Small.f (rd x3 x5)).bind fun t471 => ((R02_Bytes.f t471).bind fun t472 => (if x4.size + t472.size ≤ 9223372036854775807 then (R02_Fold.l0 k x3 (x4 ++ t472) (wrap64 (x5 + 1))) else (none)))) else (none)) else (some x4)
def R02_Fold.f (k : Nat) (a0 : ByteArray) : Option (ByteArray) := (R02_Valid.f k a0).bind fun t466 => (if t466 = true then ((R02_Runes.f k a0).bind fun t467 => (R02_Fold.l0 k t467 (⟨#[]⟩ : ByteArray) 0)) else (some a0))
theorem R02_Fold.calls (k : Nat) (a0 : ByteArray) (r : ByteArray) (w : World) (h : R02_Fold.f k a0 = some r) :
  Calls Tryz.prog 114 #[.string a0] w fun e w' => e = .returned (.string r) ∧ Below w.heap.size w w' := by
 have HB := aM (Below.refl w.heap.size w); unfold R02_Fold.f at h; have H := h; clear h; replace H := bnA H; obtain ⟨t466, A2, H⟩ := H; revert H; refine itR ?L6p ?L6n
 case' L6p =>
  intro c3 H; subst c3; replace H := bnA H; obtain ⟨t467, A4, H⟩ := H; have H' := aM H; clear H; have M4 := trivial
 case' L6n =>
  intro c3 H; replace c3 := Bool.eq_false_iff.mpr c3; subst c3; obtain rfl := sI H; have M5 := trivial
 all_goals
  case _ =>
   go_enter Tryz.func114, Tryz.ntmps114; go_wp2_with (first | ((with_reducible refine gate_callee (f := 89) rfl ?_); refine goesA (some 7) Tryz.func89 #[.string a0] ?_; (with_reducible refine (R02_Valid.calls _ _ _ _ A2.out).mono ?_); rintro e w101 ⟨rfl, hb⟩; refine ⟨_, rfl, ?_⟩; replace HB := aM (below_step (bwA) hb); (try clear hb); apply stopA; (case other => exact trivial)))
   case _ =>
    first
     | clear M4
       try go_wp2_with (first | ((with_reducible refine gate_callee (f := 90) rfl ?_); refine goesA (some 11) Tryz.func90 #[.string a0] ?_; (with_reducible refine (R02_Runes.calls _ _ _ _ A4.out).mono ?_); rintro e w102 ⟨v468, rfl, ho0, hb⟩; refine ⟨_, rfl, ?_⟩; have HO469 := aM (Kd.R_lower ho0 (below_size (bwA))); replace HB := aM (below_step (bwA) hb); (try clear hb); (try clear ho0)))
       go_loopg [4, 5] k (fun kq v4 v5 w' => ∃ (x4_1 : ByteArray) (x5_1 : Int), v4 = .string x4_1 ∧ v5 = .int .i64 x5_1 ∧ Aside0 (R02_Fold.l0 kq t467 x4_1 x5_1 = some r) ∧ Aside0 (kq ≤ k) ∧ Aside0 (Kd.R (Kd.int .i64) 3 w' w.heap.size (fun _ => True) v468 t467) ∧ Aside0 (Below w.heap.size w w'))
       case atStart => exact ⟨((⟨#[]⟩ : ByteArray)), (0), (endS), (endS), H', ⟨Nat.le_refl _⟩, ⟨raA HO469.out⟩, ⟨bwA⟩⟩
       case round =>
        clear H'; (try clear c1); (try clear p2); (try clear c3); (try clear c8); (try clear c9); (try clear c11); (try clear c89); (try clear c90); obtain ⟨x4_1, x5_1, rfl, rfl, HA, HK1, HO_3, HB⟩ := hrel
        cases gk with
        | zero => exact absurd HA.out (by simp [R02_Fold.l0])
        | succ k1 =>
         have H := HA.out; clear HA; simp only [R02_Fold.l0] at H; revert H; refine itR ?L3p ?L3n
         case' L3p =>
          intro c103 H; have c103b0 := dT c103; clear c103; replace H := itN H; obtain ⟨c104, H⟩ := H; have c104b0 := dT c104; clear c104; replace H := bnA H; obtain ⟨t471, A105, H⟩ := H; replace H := bnA H; obtain ⟨t472, A106, H⟩ := H; replace H := itN H; obtain ⟨c107, H⟩ := H; have c107b0 := eq_true c107; have c107b1 := dT c107; (try have c107b2 : (9223372036854775807 < x4_1.size + t472.size) = False := eq_false (Nat.not_lt.2 c107)); have H' := aM H; clear H; have M1 := trivial
         case' L3n =>
          intro c103 H; have c103b0 := dF c103; clear c103; obtain rfl := sI H; have M2 := trivial
         all_goals
          case _ =>
           obtain ⟨Ao201, co201, eo201⟩ := Kd.R_slice HO_3.out; subst eo201
           first
            | clear M1
              have p470 : 0 ≤ (x5_1 : Int) := odA; have q470 : x5_1 < (t467.length : Int) := odA; obtain ⟨ad470, e470, hx470_0⟩ := Kd.at_int (Kd.R_reads' HO_3.out).2.2 x5_1 p470 q470
              cases e470
              replace p470 := eq_true p470; replace q470 := eq_true q470; try go_wp2_with (first | ((with_reducible refine gate_callee (f := 154) rfl ?_); refine goesA (some 23) Tryz.func154 #[.int .i64 (rd t467 x5_1)] ?_; (with_reducible refine (R02_Small.calls _ _ _ A105.out).mono ?_); rintro e w' ⟨rfl, ⟨nd, rfl⟩⟩; refine ⟨_, rfl, ?_⟩) | ((with_reducible refine gate_callee (f := 153) rfl ?_); refine goesA (some 24) Tryz.func153 #[.int .i64 t471] ?_; (with_reducible refine (R02_Bytes.calls _ _ _ A106.out).mono ?_); rintro e w202 ⟨rfl, hb⟩; refine ⟨_, rfl, ?_⟩; replace HO_3 := aM (Kd.R_below (raA HO_3.out) hb); replace HB := aM (below_step (bwA) hb); (try clear hb)))
              go_roundg k1
              case measure => have := HK1.out; omega
              case rel => exact ⟨(x4_1 ++ t472), (wrap64 (x5_1 + 1)), (endS), (endS), H', ⟨by have := HK1.out; omega⟩, ⟨raA HO_3.out⟩, ⟨bwA⟩⟩
            | clear M2
              go_wp2; go_ret; exact ⟨endA, bwA⟩
     | clear M5
       (try go_wp2_with (fail))
       go_ret; exact ⟨endA, bwA⟩
def R04_same.f (k : Nat) (a0 : ByteArray) (a1 : ByteArray) : Option (Bool) := (R02_Fold.f k a0).bind fun t473 => ((R02_Fold.f k a1).bind fun t474 => (some (t473.toList == t474.toList)))
theorem R04_same.calls (k : Nat) (a0 : ByteArray) (a1 : ByteArray) (r : Bool) (w : World) (h : R04_same.f k a0 a1 = some r) :
  Calls Tryz.prog 71 #[.string a0, .string a1] w fun e w' => e = .returned (.bool r) ∧ Below w.heap.size w w' := by
 have HB := aM (Below.refl w.heap.size w); unfold R04_same.f at h; have H := h; clear h; replace H := Option.bind_eq_some_iff.mp H; obtain ⟨t473, A30, H⟩ := H; replace H : ((R02_Fold.f k a1).bind fun t474 => (some (t473.toList == t474.toList))) = some r := H; have A3 := aM A30; clear A30; replace H := Option.bind_eq_some_iff.mp H; obtain ⟨t474, A40, H⟩ := H; replace H : (some (t473.toList == t474.toList)) = some r := H; have A4 := aM A40; clear A40; obtain rfl := sI H; go_enter Tryz.func71, Tryz.ntmps71; go_wp2_with (first | ((with_reducible refine gate_callee (f := 114) rfl ?_); refine goesA (some 6) Tryz.func114 #[.string a0] ?_; (with_reducible refine (R02_Fold.calls k a0 t473 _ A3.out).mono ?_); rintro e w101 ⟨rfl, hb⟩; refine ⟨_, rfl, ?_⟩; have n0_ := aM (below_step (bwA) hb); clear HB; have HB := n0_; clear n0_; (try clear hb); (try clear hb2); (try clear hk); (try clear hi)) | ((with_reducible refine gate_callee (f := 114) rfl ?_); refine goesA (some 8) Tryz.func114 #[.string a1] ?_; (with_reducible refine (R02_Fold.calls k a1 t474 _ A4.out).mono ?_); rintro e w102 ⟨rfl, hb⟩; refine ⟨_, rfl, ?_⟩; have n0_ := aM (below_step (bwA) hb); clear HB; have HB := n0_; clear n0_; (try clear hb); (try clear hb2); (try clear hk); (try clear hi))); go_ret; exact ⟨endA, bwA⟩
def R04_Find.l0 : Nat → List (S88) → ByteArray → Int → Option (Int)
 | 0, _, _, _ => none
 | k + 1, x0, x1, x5 => if x5 < (x0.length : Int) then (if 0 ≤ x5 then ((R04_same.f k ((rd_T88 x0 x5).f0) x1).bind fun t476 => (if t476 = true then (some x5) else (R04_Find.l0 k x0 x1 (wrap64 (x5 + 1))))) else (none)) else (some (-1))
def R04_Find.f (k : Nat) (l0 : List (S88)) (a1 : ByteArray) : Option (Int) := R04_Find.l0 k l0 a1 0
theorem R04_Find.calls (k : Nat) (A0 : Option Addr) (c0 : Nat) (l0 : List (S88)) (a1 : ByteArray) (r : Int) (w : World) (hr0 : Kd.C k88 w A0 l0.length l0) (hc0 : l0.length ≤ c0) (h : R04_Find.f k l0 a1 = some r) :
  Calls Tryz.prog 33 #[.slice A0 l0.length c0, .string a1] w fun e w' => e = .returned (.int .i64 r) ∧ Below w.heap.size w w' := by
 have HR0 := aM hr0; have HC0 := aM hc0; clear hr0 hc0; have HB := aM (Below.refl w.heap.size w); unfold R04_Find.f at h; have H := h; clear h; have H' := aM H; clear H; go_enter Tryz.func33, Tryz.ntmps33; go_wp2
 go_loopg [5] k (fun kq v5 w' => ∃ (x5_1 : Int), v5 = .int .i64 x5_1 ∧ Aside0 (R04_Find.l0 kq l0 a1 x5_1 = some r) ∧ Aside0 (kq ≤ k) ∧ Aside0 (Below w.heap.size w w'))
 case atStart => exact ⟨(0), (endS), H', ⟨Nat.le_refl _⟩, ⟨bwA⟩⟩
 case round =>
  clear H'; (try clear p2); (try clear c3); (try clear c33); obtain ⟨x5_1, rfl, HA, HK1, HB⟩ := hrel
  cases gk with
  | zero => exact absurd HA.out (by simp [R04_Find.l0])
  | succ k1 =>
   have H := HA.out; clear HA; simp only [R04_Find.l0] at H; revert H; refine itR ?L3p ?L3n
   case' L3p =>
    intro c101 H; have c101b0 := dT c101; clear c101; replace H := itN H; obtain ⟨c102, H⟩ := H; have c102b0 := dT c102; clear c102; replace H := bnA H; obtain ⟨t476, A103, H⟩ := H; revert H; refine itR ?L4p ?L4n
    case' L4p =>
     intro c104 H; subst c104; obtain rfl := sI H; have M1 := trivial
    case' L4n =>
     intro c104 H; replace c104 := Bool.eq_false_iff.mpr c104; subst c104; have H' := aM H; clear H; have M2 := trivial
   case' L3n =>
    intro c101 H; have c101b0 := dF c101; clear c101; obtain rfl := sI H; go_wp2; go_ret; exact ⟨endA, bwA⟩
   all_goals
    case _ =>
     have p475 : 0 ≤ (x5_1 : Int) := odA; have q475 : x5_1 < (l0.length : Int) := odA; obtain ⟨ad475, e475, hx475_0, hx475_1, hx475_2⟩ := at_T88 HR0.out x5_1 p475 q475
     cases e475
     replace hx475_0 := crA hx475_0; replace hx475_1 := crA hx475_1; replace hx475_2 := crA hx475_2; replace p475 := eq_true p475; replace q475 := eq_true q475; try go_wp2_with (first | ((with_reducible refine gate_callee (f := 71) rfl ?_); refine goesA (some 18) Tryz.func71 #[.string ((rd_T88 l0 x5_1).f0), .string a1] ?_; (with_reducible refine (R04_same.calls _ _ _ _ _ A103.out).mono ?_); rintro e w201 ⟨rfl, hb⟩; refine ⟨_, rfl, ?_⟩; replace HB := aM (below_step (bwA) hb); (try clear hb)))
     first
      | clear M1
        go_ret; exact ⟨endA, bwA⟩
      | clear M2
        go_roundg k1
        case measure => have := HK1.out; omega
        case rel => exact ⟨(wrap64 (x5_1 + 1)), (endS), H', ⟨by have := HK1.out; omega⟩, ⟨bwA⟩⟩
def R04_Within.l0 : Nat → List (S88) → List (S88) → Int → Option (Bool)
 | 0, _, _, _ => none
 | k + 1, x0, x1, x5 => if x5 < (x0.length : Int) then (if 0 ≤ x5 then ((R04_Find.f k x1 ((rd_T88 x0 x5).f0)).bind fun t478 => (if t478 < 0 then (some false) else (if 0 ≤ t478 then (if t478 < (x1.length : Int) then (if ((rd_T88 x1 t478).f1) = ((rd_T88 x0 x5).f1) then (if (((rd_T88 x1 t478).f2) != ((rd_T88 x0 x5).f2)) = true then (some false) else (R04_Within.l0 k x0 x1 (wrap64 (x5 + 1)))) else (some false)) else (none)) else (none)))) else (none)) else (some true)
def R04_Within.f (k : Nat) (l0 : List (S88)) (l1 : List (S88)) : Option (Bool) := R04_Within.l0 k l0 l1 0
theorem R04_Within.calls (k : Nat) (A0 : Option Addr) (c0 : Nat) (l0 : List (S88)) (A1 : Option Addr) (c1 : Nat) (l1 : List (S88)) (r : Bool) (w : World) (hr0 : Kd.C k88 w A0 l0.length l0) (hc0 : l0.length ≤ c0) (hr1 : Kd.C k88 w A1 l1.length l1) (hc1 : l1.length ≤ c1) (h : R04_Within.f k l0 l1 = some r) :
  Calls Tryz.prog 25 #[.slice A0 l0.length c0, .slice A1 l1.length c1] w fun e w' => e = .returned (.bool r) ∧ Below w.heap.size w w' := by
 have HR0 := aM hr0; have HC0 := aM hc0; clear hr0 hc0; have HR1 := aM hr1; have HC1 := aM hc1; clear hr1 hc1; have HB := aM (Below.refl w.heap.size w); unfold R04_Within.f at h; have H := h; clear h; have H' := aM H; clear H; go_enter Tryz.func25, Tryz.ntmps25; go_wp2; repeat (go_quiet (fail); try go_wp2)
 go_loopg [5] k (fun kq v5 w' => ∃ (x5_1 : Int), v5 = .int .i64 x5_1 ∧ Aside0 (R04_Within.l0 kq l0 l1 x5_1 = some r) ∧ Aside0 (kq ≤ k) ∧ Aside0 (Below w.heap.size w w'))
 case atStart => exact ⟨(0), (endS), H', ⟨Nat.le_refl _⟩, ⟨bwA⟩⟩
 case round =>
  clear H'; (try clear c1); (try clear c2); (try clear p2); (try clear c25); obtain ⟨x5_1, rfl, HA, HK1, HB⟩ := hrel
  cases gk with
  | zero => exact absurd HA.out (by simp [R04_Within.l0])
  | succ k1 =>
   have H := HA.out; clear HA; simp only [R04_Within.l0] at H; revert H; refine itR ?L7p ?L7n
   case' L7p =>
    intro c101 H; have c101b0 := dT c101; clear c101; replace H := itN H; obtain ⟨c102, H⟩ := H; have c102b0 := dT c102; clear c102; replace H := bnA H; obtain ⟨t478, A103, H⟩ := H; revert H; refine itR ?L8p ?L8n
    case' L8p =>
     intro c104 H; have c104b0 := dT c104; clear c104; obtain rfl := sI H; have M1 := trivial
    case' L8n =>
     intro c104 H; have c104b0 := dF c104; clear c104; replace H := itN H; obtain ⟨c105, H⟩ := H; have c105b0 := dT c105; clear c105; replace H := itN H; obtain ⟨c106, H⟩ := H; have c106b0 := dT c106; clear c106; revert H; refine itQ ?L9p ?L9n
     case' L9p =>
      rintro ⟨c107b0, c107b1⟩ H; revert H; refine itR ?L10p ?L10n
      case' L10p =>
       intro c108 H; have c108b0 : (((rd_T88 l1 t478).f2) != ((rd_T88 l0 x5_1).f2)) = true := c108
       (try (have c108b1 : decide (((rd_T88 l1 t478).f2) = ((rd_T88 l0 x5_1).f2)) = false := by simpa using c108))
       (try (have c108b2 : (((rd_T88 l1 t478).f2) == ((rd_T88 l0 x5_1).f2)) = false := by simpa using c108))
       (try (have c108b3 : ¬ (((rd_T88 l1 t478).f2) = ((rd_T88 l0 x5_1).f2)) := by simpa using c108))
       clear c108; obtain rfl := sI H; have M2 := trivial; have M3 := trivial; have M4 := trivial
      case' L10n =>
       intro c108 H; have c108b0 : (((rd_T88 l1 t478).f2) != ((rd_T88 l0 x5_1).f2)) = false := by simpa using c108
       (try (have c108b1 : decide (((rd_T88 l1 t478).f2) = ((rd_T88 l0 x5_1).f2)) = true := by simpa using c108))
       (try (have c108b2 : (((rd_T88 l1 t478).f2) == ((rd_T88 l0 x5_1).f2)) = true := by simpa using c108))
       clear c108; have H' := aM H; clear H; have M2 := trivial; have M3 := trivial; have M5 := trivial
     case' L9n =>
      rintro ⟨c107b0, c107b1⟩ c107 H; obtain rfl := sI H; have M2 := trivial; have M6 := trivial
   case' L7n =>
    intro c101 H; have c101b0 := dF c101; clear c101; obtain rfl := sI H; go_wp2; (repeat (go_quiet (fail); try go_wp2)); go_ret; exact ⟨endA, bwA⟩
   all_goals
    case _ =>
     have p477 : 0 ≤ (x5_1 : Int) := odA; have q477 : x5_1 < (l0.length : Int) := odA; obtain ⟨ad477, e477, hx477_0, hx477_1, hx477_2⟩ := at_T88 HR0.out x5_1 p477 q477
     cases e477
     replace hx477_0 := crA hx477_0; replace hx477_1 := crA hx477_1; replace hx477_2 := crA hx477_2; replace p477 := eq_true p477; replace q477 := eq_true q477; go_wp2_with (first | (go_at_call 33; (with_reducible refine (R04_Find.calls _ _ _ _ _ _ _ ?side1 ?side2 A103.out).mono ?_); (case side1 => exact Kd.C_below HR1.out (bwA)); (case side2 => exact HC1.out); rintro e w201 ⟨rfl, hb⟩; replace HB := aM (below_step (bwA) hb); (try clear hb); apply stopA; (case other => exact trivial)))
     case _ =>
      first
       | clear M1
         (try go_wp2_with (fail))
         (repeat (go_quiet (first | (go_at_call 33; (with_reducible refine (R04_Find.calls _ _ _ _ _ _ _ ?side1 ?side2 A103.out).mono ?_); (case side1 => exact Kd.C_below HR1.out (bwA)); (case side2 => exact HC1.out); rintro e w201 ⟨rfl, hb⟩; have n0_ := aM (below_step (bwA) hb); clear HB; have HB := n0_; clear n0_; (try clear hb); (try clear hb2); (try clear hk); (try clear hi))); try go_wp2_with (first | (go_at_call 33; (with_reducible refine (R04_Find.calls k1 _ _ l1 ((rd_T88 l0 x5_1).f0) t478 _ ?side1 ?side2 A103.out).mono ?_); (case side1 => exact Kd.C_below HR1.out (bwA)); (case side2 => exact HC1.out); rintro e w201 ⟨rfl, hb⟩; have n0_ := aM (below_step (bwA) hb); clear HB; have HB := n0_; clear n0_; (try clear hb); (try clear hb2); (try clear hk); (try clear hi))))); go_ret; exact ⟨endA, bwA⟩
       | clear M2
         have p479 : 0 ≤ (t478 : Int) := odA; have q479 : t478 < (l1.length : Int) := odA; obtain ⟨ad479, e479, hx479_0, hx479_1, hx479_2⟩ := at_T88 HR1.out t478 p479 q479
         cases e479
         replace hx479_0 := crA hx479_0; replace hx479_1 := crA hx479_1; replace hx479_2 := crA hx479_2; replace p479 := eq_true p479; replace q479 := eq_true q479; have p480 : 0 ≤ (x5_1 : Int) := odA; have q480 : x5_1 < (l0.length : Int) := odA; obtain ⟨ad480, e480, hx480_0, hx480_1, hx480_2⟩ := at_T88 HR0.out x5_1 p480 q480; obtain rfl : ad477 = ad480 := (by injection e480); replace hx480_0 := crA hx480_0; replace hx480_1 := crA hx480_1; replace hx480_2 := crA hx480_2; replace p480 := eq_true p480; replace q480 := eq_true q480
         first
          | clear M3
            have p481 : 0 ≤ (t478 : Int) := odA; have q481 : t478 < (l1.length : Int) := odA; obtain ⟨ad481, e481, hx481_0, hx481_1, hx481_2⟩ := at_T88 HR1.out t478 p481 q481; obtain rfl : ad479 = ad481 := (by injection e481); replace hx481_0 := crA hx481_0; replace hx481_1 := crA hx481_1; replace hx481_2 := crA hx481_2; replace p481 := eq_true p481; replace q481 := eq_true q481; have p482 : 0 ≤ (x5_1 : Int) := odA; have q482 : x5_1 < (l0.length : Int) := odA; obtain ⟨ad482, e482, hx482_0, hx482_1, hx482_2⟩ := at_T88 HR0.out x5_1 p482 q482; obtain rfl : ad477 = ad482 := (by injection e482); replace hx482_0 := crA hx482_0; replace hx482_1 := crA hx482_1; replace hx482_2 := crA hx482_2; replace p482 := eq_true p482; replace q482 := eq_true q482
            (try go_wp2_with (fail))
            repeat (go_quiet (first | (go_at_call 33; (with_reducible refine (R04_Find.calls _ _ _ _ _ _ _ ?side1 ?side2 A103.out).mono ?_); (case side1 => exact Kd.C_below HR1.out (bwA)); (case side2 => exact HC1.out); rintro e w201 ⟨rfl, hb⟩; have n0_ := aM (below_step (bwA) hb); clear HB; have HB := n0_; clear n0_; (try clear hb); (try clear hb2); (try clear hk); (try clear hi); have p479 : 0 ≤ (t478 : Int) := odA; have q479 : t478 < (l1.length : Int) := odA; obtain ⟨ad479, e479, hx479_0, hx479_1, hx479_2⟩ := at_T88 HR1.out t478 p479 q479; cases e479; replace hx479_0 := crA hx479_0; replace hx479_1 := crA hx479_1; replace hx479_2 := crA hx479_2; replace p479 := eq_true p479; replace q479 := eq_true q479; have p480 : 0 ≤ (x5_1 : Int) := odA; have q480 : x5_1 < (l0.length : Int) := odA; obtain ⟨ad480, e480, hx480_0, hx480_1, hx480_2⟩ := at_T88 HR0.out x5_1 p480 q480; obtain rfl : ad477 = ad480 := (by injection e480); replace hx480_0 := crA hx480_0; replace hx480_1 := crA hx480_1; replace hx480_2 := crA hx480_2; replace p480 := eq_true p480; replace q480 := eq_true q480; have p481 : 0 ≤ (t478 : Int) := odA; have q481 : t478 < (l1.length : Int) := odA; obtain ⟨ad481, e481, hx481_0, hx481_1, hx481_2⟩ := at_T88 HR1.out t478 p481 q481; obtain rfl : ad479 = ad481 := (by injection e481); replace hx481_0 := crA hx481_0; replace hx481_1 := crA hx481_1; replace hx481_2 := crA hx481_2; replace p481 := eq_true p481; replace q481 := eq_true q481; have p482 : 0 ≤ (x5_1 : Int) := odA; have q482 : x5_1 < (l0.length : Int) := odA; obtain ⟨ad482, e482, hx482_0, hx482_1, hx482_2⟩ := at_T88 HR0.out x5_1 p482 q482; obtain rfl : ad477 = ad482 := (by injection e482); replace hx482_0 := crA hx482_0; replace hx482_1 := crA hx482_1; replace hx482_2 := crA hx482_2; replace p482 := eq_true p482; replace q482 := eq_true q482)); try go_wp2_with (first | (go_at_call 33; (with_reducible refine (R04_Find.calls k1 _ _ l1 ((rd_T88 l0 x5_1).f0) t478 _ ?side1 ?side2 A103.out).mono ?_); (case side1 => exact Kd.C_below HR1.out (bwA)); (case side2 => exact HC1.out); rintro e w201 ⟨rfl, hb⟩; have n0_ := aM (below_step (bwA) hb); clear HB; have HB := n0_; clear n0_; (try clear hb); (try clear hb2); (try clear hk); (try clear hi); have p479 : 0 ≤ (t478 : Int) := odA; have q479 : t478 < (l1.length : Int) := odA; obtain ⟨ad479, e479, hx479_0, hx479_1, hx479_2⟩ := at_T88 HR1.out t478 p479 q479; cases e479; replace hx479_0 := crA hx479_0; replace hx479_1 := crA hx479_1; replace hx479_2 := crA hx479_2; replace p479 := eq_true p479; replace q479 := eq_true q479; have p480 : 0 ≤ (x5_1 : Int) := odA; have q480 : x5_1 < (l0.length : Int) := odA; obtain ⟨ad480, e480, hx480_0, hx480_1, hx480_2⟩ := at_T88 HR0.out x5_1 p480 q480; obtain rfl : ad477 = ad480 := (by injection e480); replace hx480_0 := crA hx480_0; replace hx480_1 := crA hx480_1; replace hx480_2 := crA hx480_2; replace p480 := eq_true p480; replace q480 := eq_true q480; have p481 : 0 ≤ (t478 : Int) := odA; have q481 : t478 < (l1.length : Int) := odA; obtain ⟨ad481, e481, hx481_0, hx481_1, hx481_2⟩ := at_T88 HR1.out t478 p481 q481; obtain rfl : ad479 = ad481 := (by injection e481); replace hx481_0 := crA hx481_0; replace hx481_1 := crA hx481_1; replace hx481_2 := crA hx481_2; replace p481 := eq_true p481; replace q481 := eq_true q481; have p482 : 0 ≤ (x5_1 : Int) := odA; have q482 : x5_1 < (l0.length : Int) := odA; obtain ⟨ad482, e482, hx482_0, hx482_1, hx482_2⟩ := at_T88 HR0.out x5_1 p482 q482; obtain rfl : ad477 = ad482 := (by injection e482); replace hx482_0 := crA hx482_0; replace hx482_1 := crA hx482_1; replace hx482_2 := crA hx482_2; replace p482 := eq_true p482; replace q482 := eq_true q482)))
            first
             | clear M4
               go_ret; exact ⟨endA, bwA⟩
             | clear M5
               go_roundg k1
               case measure => have := HK1.out; omega
               case rel => exact ⟨(wrap64 (x5_1 + 1)), (endS), H', ⟨by have := HK1.out; omega⟩, ⟨bwA⟩⟩
          | clear M6
            (try go_wp2_with (fail))
            (repeat (go_quiet (first | (go_at_call 33; (with_reducible refine (R04_Find.calls _ _ _ _ _ _ _ ?side1 ?side2 A103.out).mono ?_); (case side1 => exact Kd.C_below HR1.out (bwA)); (case side2 => exact HC1.out); rintro e w201 ⟨rfl, hb⟩; have n0_ := aM (below_step (bwA) hb); clear HB; have HB := n0_; clear n0_; (try clear hb); (try clear hb2); (try clear hk); (try clear hi); have p479 : 0 ≤ (t478 : Int) := odA; have q479 : t478 < (l1.length : Int) := odA; obtain ⟨ad479, e479, hx479_0, hx479_1, hx479_2⟩ := at_T88 HR1.out t478 p479 q479; cases e479; replace hx479_0 := crA hx479_0; replace hx479_1 := crA hx479_1; replace hx479_2 := crA hx479_2; replace p479 := eq_true p479; replace q479 := eq_true q479; have p480 : 0 ≤ (x5_1 : Int) := odA; have q480 : x5_1 < (l0.length : Int) := odA; obtain ⟨ad480, e480, hx480_0, hx480_1, hx480_2⟩ := at_T88 HR0.out x5_1 p480 q480; obtain rfl : ad477 = ad480 := (by injection e480); replace hx480_0 := crA hx480_0; replace hx480_1 := crA hx480_1; replace hx480_2 := crA hx480_2; replace p480 := eq_true p480; replace q480 := eq_true q480)); try go_wp2_with (first | (go_at_call 33; (with_reducible refine (R04_Find.calls k1 _ _ l1 ((rd_T88 l0 x5_1).f0) t478 _ ?side1 ?side2 A103.out).mono ?_); (case side1 => exact Kd.C_below HR1.out (bwA)); (case side2 => exact HC1.out); rintro e w201 ⟨rfl, hb⟩; have n0_ := aM (below_step (bwA) hb); clear HB; have HB := n0_; clear n0_; (try clear hb); (try clear hb2); (try clear hk); (try clear hi); have p479 : 0 ≤ (t478 : Int) := odA; have q479 : t478 < (l1.length : Int) := odA; obtain ⟨ad479, e479, hx479_0, hx479_1, hx479_2⟩ := at_T88 HR1.out t478 p479 q479; cases e479; replace hx479_0 := crA hx479_0; replace hx479_1 := crA hx479_1; replace hx479_2 := crA hx479_2; replace p479 := eq_true p479; replace q479 := eq_true q479; have p480 : 0 ≤ (x5_1 : Int) := odA; have q480 : x5_1 < (l0.length : Int) := odA; obtain ⟨ad480, e480, hx480_0, hx480_1, hx480_2⟩ := at_T88 HR0.out x5_1 p480 q480; obtain rfl : ad477 = ad480 := (by injection e480); replace hx480_0 := crA hx480_0; replace hx480_1 := crA hx480_1; replace hx480_2 := crA hx480_2; replace p480 := eq_true p480; replace q480 := eq_true q480)))); go_ret; exact ⟨endA, bwA⟩
def slices_Equal_string_string.l0 : Nat → List ByteArray → List ByteArray → Int → Int → Option (Bool)
 | 0, _, _, _, _ => none
 | k + 1, x0, x1, x12, x13 => if x13 < x12 then (if 0 ≤ x13 then (if x13 < (x0.length : Int) then (if x13 < (x1.length : Int) then (if (rdOf ByteArray.empty x0 x13).toList = (rdOf ByteArray.empty x1 x13).toList then (slices_Equal_string_string.l0 k x0 x1 x12 (wrap64 (x13 + 1))) else (some false)) else (none)) else (none)) else (none)) else (some true)
def slices_Equal_string_string.f (k : Nat) (l0 : List ByteArray) (l1 : List ByteArray) : Option (Bool) := if (l0.length : Int) = (l1.length : Int) then (slices_Equal_string_string.l0 k l0 l1 (l0.length : Int) 0) else (some false)
theorem slices_Equal_string_string.calls (k : Nat) (A0 : Option Addr) (c0 : Nat) (l0 : List ByteArray) (A1 : Option Addr) (c1 : Nat) (l1 : List ByteArray) (r : Bool) (w : World) (hr0 : Kd.C Kd.string w A0 l0.length l0) (hc0 : l0.length ≤ c0) (hr1 : Kd.C Kd.string w A1 l1.length l1) (hc1 : l1.length ≤ c1) (h : slices_Equal_string_string.f k l0 l1 = some r) :
  Calls Tryz.prog 65 #[.slice A0 l0.length c0, .slice A1 l1.length c1] w fun e w' => e = .returned (.bool r) ∧ Drawn0 w w' := by
 have HR0 := aM hr0; have HC0 := aM hc0; clear hr0 hc0; have HR1 := aM hr1; have HC1 := aM hc1; clear hr1 hc1; unfold slices_Equal_string_string.f at h; have H := h; clear h; revert H; refine itR ?L7p ?L7n
 case' L7p =>
  intro c3 H; obtain ⟨c3b0, c3b1⟩ := fcE c3; have c3b2 : (l0.length == l1.length) = true := by first | simpa using c3 | (simp at c3 ⊢; omega)
  clear c3; have H' := aM H; clear H; have M5 := trivial
 case' L7n =>
  intro c3 H; obtain ⟨c3b0, c3b1⟩ := fcN c3; have c3b2 : (l0.length == l1.length) = false := by first | simpa using c3 | (simp at c3 ⊢; omega)
  obtain rfl := sI H; have M6 := trivial
 all_goals
  case _ =>
   go_enter Tryz.func65, Tryz.ntmps65; go_wp2; repeat (go_quiet (fail); try go_wp2)
   first
    | clear M5
      go_loopg [13] k (fun kq v13 w' => ∃ (x13_1 : Int), v13 = .int .i64 x13_1 ∧ Aside0 (slices_Equal_string_string.l0 kq l0 l1 (l0.length : Int) x13_1 = some r) ∧ Aside0 (kq ≤ k) ∧ Drawn0 w w')
      case atStart => exact ⟨(0), (endS), H', ⟨Nat.le_refl _⟩, drA⟩
      case round =>
       clear H'; (try clear c1); (try clear p2); (try clear c3); (try clear c3b0); (try clear c3b1); (try clear c3b2); (try clear c6); (try clear c65); obtain ⟨x13_1, rfl, HA, HK1, ⟨m1, rfl⟩⟩ := hrel
       cases gk with
       | zero => exact absurd HA.out (by simp [slices_Equal_string_string.l0])
       | succ k1 =>
        have H := HA.out; clear HA; simp only [slices_Equal_string_string.l0] at H; revert H; refine itR ?L3p ?L3n
        case' L3p =>
         intro c101 H; have c101b0 := dT c101; clear c101; replace H := itN H; obtain ⟨c102, H⟩ := H; have c102b0 := dT c102; clear c102; replace H := itN H; obtain ⟨c103, H⟩ := H; have c103b0 := dT c103; clear c103; replace H := itN H; obtain ⟨c104, H⟩ := H; have c104b0 := dT c104; clear c104; revert H; refine itQ ?L4p ?L4n
         case' L4p =>
          rintro ⟨c105b0, c105b1⟩ H; have H' := aM H; clear H; have M1 := trivial
         case' L4n =>
          rintro ⟨c105b0, c105b1⟩ c105 H; obtain rfl := sI H; have M2 := trivial
        case' L3n =>
         intro c101 H; have c101b0 := dF c101; clear c101; obtain rfl := sI H; go_wp2; (repeat (go_quiet (fail); try go_wp2)); go_ret; exact ⟨endS, drA⟩
        all_goals
         case _ =>
          have p483 : 0 ≤ (x13_1 : Int) := odA; have q483 : x13_1 < (l0.length : Int) := odA; obtain ⟨ad483, e483, hx483_0⟩ := Kd.at_string HR0.out x13_1 p483 q483
          cases e483
          replace p483 := eq_true p483; replace q483 := eq_true q483; have p484 : 0 ≤ (x13_1 : Int) := odA; have q484 : x13_1 < (l1.length : Int) := odA; obtain ⟨ad484, e484, hx484_0⟩ := Kd.at_string HR1.out x13_1 p484 q484
          cases e484
          replace p484 := eq_true p484; replace q484 := eq_true q484; go_wp2; repeat (go_quiet (fail); try go_wp2)
          first
           | clear M1
             go_roundg k1
             case measure => have := HK1.out; omega
             case rel => exact ⟨(wrap64 (x13_1 + 1)), (endS), H', ⟨by have := HK1.out; omega⟩, drA⟩
           | clear M2
             go_ret; exact ⟨endS, drA⟩
    | clear M6
      go_ret; exact ⟨endS, drA⟩
end Go.Proofs.YtpjjbaclphoilaaGreatDoor.A
