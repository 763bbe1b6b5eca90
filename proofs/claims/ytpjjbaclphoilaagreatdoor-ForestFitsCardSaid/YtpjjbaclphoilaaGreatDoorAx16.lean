import Derived.Test.YtpjjbaclphoilaaGreatDoorAx0
import Derived.Test.YtpjjbaclphoilaaGreatDoorAx15
namespace Go.Proofs.YtpjjbaclphoilaaGreatDoor.A
open Go.RowKit Go.Proofs.YtpjjbaclphoilaaGreatDoorW.PrintWords Go.Proofs.YtpjjbaclphoilaaGreatDoorW.PrintLast Go.Proofs.YtpjjbaclphoilaaGreatDoorW.PrintMore
attribute [local go_sem] max2_int min2_int max_two min_two max_three min_three max_four min_four   -- for this text's walks alone
set_option linter.unusedVariables false
set_option linter.unusedSimpArgs false
set_option maxHeartbeats 8000000
set_option maxRecDepth 100000
def R02_Small.f (a0:Int):Option (Int):=if a0≥65 then (if a0≤90 then (some (wrap64 (a0+32))) else (if a0≥192 then (if a0≤222 then (if a0=215 then (if a0≥913 then (if a0≤937 then (if a0=930 then (if a0≥1040 then (if a0≤1071 then (some (wrap64 (a0+32))) else (some a0)) else (some a0)) else (some (wrap64 (a0+32)))) else (if a0≥1040 then (if a0≤1071 then (some (wrap64 (a0+32))) else (some a0)) else (some a0))) else (if a0≥1040 then (if a0≤1071 then (some (wrap64 (a0+32))) else (some a0)) else (some a0))) else (some (wrap64 (a0+32)))) else (if a0≥913 then (if a0≤937 then (if a0=930 then (if a0≥1040 then (if a0≤1071 then (some (wrap64 (a0+32))) else (some a0)) else (some a0)) else (some (wrap64 (a0+32)))) else (if a0≥1040 then (if a0≤1071 then (some (wrap64 (a0+32))) else (some a0)) else (some a0))) else (if a0≥1040 then (if a0≤1071 then (some (wrap64 (a0+32))) else (some a0)) else (some a0)))) else (if a0≥913 then (if a0≤937 then (if a0=930 then (if a0≥1040 then (if a0≤1071 then (some (wrap64 (a0+32))) else (some a0)) else (some a0)) else (some (wrap64 (a0+32)))) else (if a0≥1040 then (if a0≤1071 then (some (wrap64 (a0+32))) else (some a0)) else (some a0))) else (if a0≥1040 then (if a0≤1071 then (some (wrap64 (a0+32))) else (some a0)) else (some a0))))) else (if a0≥192 then (if a0≤222 then (if a0=215 then (if a0≥913 then (if a0≤937 then (if a0=930 then (if a0≥1040 then (if a0≤1071 then (some (wrap64 (a0+32))) else (some a0)) else (some a0)) else (some (wrap64 (a0+32)))) else (if a0≥1040 then (if a0≤1071 then (some (wrap64 (a0+32))) else (some a0)) else (some a0))) else (if a0≥1040 then (if a0≤1071 then (some (wrap64 (a0+32))) else (some a0)) else (some a0))) else (some (wrap64 (a0+32)))) else (if a0≥913 then (if a0≤937 then (if a0=930 then (if a0≥1040 then (if a0≤1071 then (some (wrap64 (a0+32))) else (some a0)) else (some a0)) else (some (wrap64 (a0+32)))) else (if a0≥1040 then (if a0≤1071 then (some (wrap64 (a0+32))) else (some a0)) else (some a0))) else (if a0≥1040 then (if a0≤1071 then (some (wrap64 (a0+32))) else (some a0)) else (some a0)))) else (if a0≥913 then (if a0≤937 then (if a0=930 then (if a0≥1040 then (if a0≤1071 then (some (wrap64 (a0+32))) else (some a0)) else (some a0)) else (some (wrap64 (a0+32)))) else (if a0≥1040 then (if a0≤1071 then (some (wrap64 (a0+32))) else (some a0)) else (some a0))) else (if a0≥1040 then (if a0≤1071 then (some (wrap64 (a0+32))) else (some a0)) else (some a0))))
theorem R02_Small.calls (a0:Int) (r:Int) (w:World) (h:R02_Small.f a0=some r):
  Calls Tryz.prog 154 #[.int .i64 a0] w fun e w'=>e=.returned (.int .i64 r)∧Drawn0 w w':=by
 unfold R02_Small.f at h;have H:=h;clear h;revert H;refine itR ?L1p ?L1n
 case' L1p=>
  intro c2 H;have c2b0:=geT c2;clear c2;revert H;refine itR ?L2p ?L2n
  case' L2p=>
   intro c3 H;have c3b0:=dT c3;clear c3;obtain rfl:=sI H
  case' L2n=>
   intro c3 H;have c3b0:=dF c3;clear c3;revert H;refine itR ?L3p ?L3n
   case' L3p=>
    intro c4 H;have c4b0:=geT c4;clear c4;revert H;refine itR ?L4p ?L4n
    case' L4p=>
     intro c5 H;have c5b0:=dT c5;clear c5;revert H;refine itQ ?L5p ?L5n
     case' L5p=>
      rintro ⟨c6b0,c6b1⟩ H;revert H;refine itR ?L6p ?L6n
      case' L6p=>
       intro c7 H;have c7b0:=geT c7;clear c7;revert H;refine itR ?L7p ?L7n
       case' L7p=>
        intro c8 H;have c8b0:=dT c8;clear c8;revert H;refine itQ ?L8p ?L8n
        case' L8p=>
         rintro ⟨c9b0,c9b1⟩ H;revert H;refine itR ?L9p ?L9n
         case' L9p=>
          intro c10 H;have c10b0:=geT c10;clear c10;revert H;refine itR ?L10p ?L10n
          case' L10p=>
           intro c11 H;have c11b0:=dT c11;clear c11;obtain rfl:=sI H
          case' L10n=>
           intro c11 H;have c11b0:=dF c11;clear c11;obtain rfl:=sI H
         case' L9n=>
          intro c10 H;have c10b0:=geF c10;clear c10;obtain rfl:=sI H
        case' L8n=>
         rintro ⟨c9b0,c9b1⟩ c9 H;obtain rfl:=sI H
       case' L7n=>
        intro c8 H;have c8b0:=dF c8;clear c8;revert H;refine itR ?L11p ?L11n
        case' L11p=>
         intro c9 H;have c9b0:=geT c9;clear c9;revert H;refine itR ?L12p ?L12n
         case' L12p=>
          intro c10 H;have c10b0:=dT c10;clear c10;obtain rfl:=sI H
         case' L12n=>
          intro c10 H;have c10b0:=dF c10;clear c10;obtain rfl:=sI H
        case' L11n=>
         intro c9 H;have c9b0:=geF c9;clear c9;obtain rfl:=sI H
      case' L6n=>
       intro c7 H;have c7b0:=geF c7;clear c7;revert H;refine itR ?L13p ?L13n
       case' L13p=>
        intro c8 H;have c8b0:=geT c8;clear c8;revert H;refine itR ?L14p ?L14n
        case' L14p=>
         intro c9 H;have c9b0:=dT c9;clear c9;obtain rfl:=sI H
        case' L14n=>
         intro c9 H;have c9b0:=dF c9;clear c9;obtain rfl:=sI H
       case' L13n=>
        intro c8 H;have c8b0:=geF c8;clear c8;obtain rfl:=sI H
     case' L5n=>
      rintro ⟨c6b0,c6b1⟩ c6 H;obtain rfl:=sI H
    case' L4n=>
     intro c5 H;have c5b0:=dF c5;clear c5;revert H;refine itR ?L15p ?L15n
     case' L15p=>
      intro c6 H;have c6b0:=geT c6;clear c6;revert H;refine itR ?L16p ?L16n
      case' L16p=>
       intro c7 H;have c7b0:=dT c7;clear c7;revert H;refine itQ ?L17p ?L17n
       case' L17p=>
        rintro ⟨c8b0,c8b1⟩ H;revert H;refine itR ?L18p ?L18n
        case' L18p=>
         intro c9 H;have c9b0:=geT c9;clear c9;revert H;refine itR ?L19p ?L19n
         case' L19p=>
          intro c10 H;have c10b0:=dT c10;clear c10;obtain rfl:=sI H
         case' L19n=>
          intro c10 H;have c10b0:=dF c10;clear c10;obtain rfl:=sI H
        case' L18n=>
         intro c9 H;have c9b0:=geF c9;clear c9;obtain rfl:=sI H
       case' L17n=>
        rintro ⟨c8b0,c8b1⟩ c8 H;obtain rfl:=sI H
      case' L16n=>
       intro c7 H;have c7b0:=dF c7;clear c7;revert H;refine itR ?L20p ?L20n
       case' L20p=>
        intro c8 H;have c8b0:=geT c8;clear c8;revert H;refine itR ?L21p ?L21n
        case' L21p=>
         intro c9 H;have c9b0:=dT c9;clear c9;obtain rfl:=sI H
        case' L21n=>
         intro c9 H;have c9b0:=dF c9;clear c9;obtain rfl:=sI H
       case' L20n=>
        intro c8 H;have c8b0:=geF c8;clear c8;obtain rfl:=sI H
     case' L15n=>
      intro c6 H;have c6b0:=geF c6;clear c6;revert H;refine itR ?L22p ?L22n
      case' L22p=>
       intro c7 H;have c7b0:=geT c7;clear c7;revert H;refine itR ?L23p ?L23n
       case' L23p=>
        intro c8 H;have c8b0:=dT c8;clear c8;obtain rfl:=sI H
       case' L23n=>
        intro c8 H;have c8b0:=dF c8;clear c8;obtain rfl:=sI H
      case' L22n=>
       intro c7 H;have c7b0:=geF c7;clear c7;obtain rfl:=sI H
   case' L3n=>
    intro c4 H;have c4b0:=geF c4;clear c4;revert H;refine itR ?L24p ?L24n
    case' L24p=>
     intro c5 H;have c5b0:=geT c5;clear c5;revert H;refine itR ?L25p ?L25n
     case' L25p=>
      intro c6 H;have c6b0:=dT c6;clear c6;revert H;refine itQ ?L26p ?L26n
      case' L26p=>
       rintro ⟨c7b0,c7b1⟩ H;revert H;refine itR ?L27p ?L27n
       case' L27p=>
        intro c8 H;have c8b0:=geT c8;clear c8;revert H;refine itR ?L28p ?L28n
        case' L28p=>
         intro c9 H;have c9b0:=dT c9;clear c9;obtain rfl:=sI H
        case' L28n=>
         intro c9 H;have c9b0:=dF c9;clear c9;obtain rfl:=sI H
       case' L27n=>
        intro c8 H;have c8b0:=geF c8;clear c8;obtain rfl:=sI H
      case' L26n=>
       rintro ⟨c7b0,c7b1⟩ c7 H;obtain rfl:=sI H
     case' L25n=>
      intro c6 H;have c6b0:=dF c6;clear c6;revert H;refine itR ?L29p ?L29n
      case' L29p=>
       intro c7 H;have c7b0:=geT c7;clear c7;revert H;refine itR ?L30p ?L30n
       case' L30p=>
        intro c8 H;have c8b0:=dT c8;clear c8;obtain rfl:=sI H
       case' L30n=>
        intro c8 H;have c8b0:=dF c8;clear c8;obtain rfl:=sI H
      case' L29n=>
       intro c7 H;have c7b0:=geF c7;clear c7;obtain rfl:=sI H
    case' L24n=>
     intro c5 H;have c5b0:=geF c5;clear c5;revert H;refine itR ?L31p ?L31n
     case' L31p=>
      intro c6 H;have c6b0:=geT c6;clear c6;revert H;refine itR ?L32p ?L32n
      case' L32p=>
       intro c7 H;have c7b0:=dT c7;clear c7;obtain rfl:=sI H
      case' L32n=>
       intro c7 H;have c7b0:=dF c7;clear c7;obtain rfl:=sI H
     case' L31n=>
      intro c6 H;have c6b0:=geF c6;clear c6;obtain rfl:=sI H
 case' L1n=>
  intro c2 H;have c2b0:=geF c2;clear c2;revert H;refine itR ?L33p ?L33n
  case' L33p=>
   intro c3 H;have c3b0:=geT c3;clear c3;revert H;refine itR ?L34p ?L34n
   case' L34p=>
    intro c4 H;have c4b0:=dT c4;clear c4;revert H;refine itQ ?L35p ?L35n
    case' L35p=>
     rintro ⟨c5b0,c5b1⟩ H;revert H;refine itR ?L36p ?L36n
     case' L36p=>
      intro c6 H;have c6b0:=geT c6;clear c6;revert H;refine itR ?L37p ?L37n
      case' L37p=>
       intro c7 H;have c7b0:=dT c7;clear c7;revert H;refine itQ ?L38p ?L38n
       case' L38p=>
        rintro ⟨c8b0,c8b1⟩ H;revert H;refine itR ?L39p ?L39n
        case' L39p=>
         intro c9 H;have c9b0:=geT c9;clear c9;revert H;refine itR ?L40p ?L40n
         case' L40p=>
          intro c10 H;have c10b0:=dT c10;clear c10;obtain rfl:=sI H
         case' L40n=>
          intro c10 H;have c10b0:=dF c10;clear c10;obtain rfl:=sI H
        case' L39n=>
         intro c9 H;have c9b0:=geF c9;clear c9;obtain rfl:=sI H
       case' L38n=>
        rintro ⟨c8b0,c8b1⟩ c8 H;obtain rfl:=sI H
      case' L37n=>
       intro c7 H;have c7b0:=dF c7;clear c7;revert H;refine itR ?L41p ?L41n
       case' L41p=>
        intro c8 H;have c8b0:=geT c8;clear c8;revert H;refine itR ?L42p ?L42n
        case' L42p=>
         intro c9 H;have c9b0:=dT c9;clear c9;obtain rfl:=sI H
        case' L42n=>
         intro c9 H;have c9b0:=dF c9;clear c9;obtain rfl:=sI H
       case' L41n=>
        intro c8 H;have c8b0:=geF c8;clear c8;obtain rfl:=sI H
     case' L36n=>
      intro c6 H;have c6b0:=geF c6;clear c6;revert H;refine itR ?L43p ?L43n
      case' L43p=>
       intro c7 H;have c7b0:=geT c7;clear c7;revert H;refine itR ?L44p ?L44n
       case' L44p=>
        intro c8 H;have c8b0:=dT c8;clear c8;obtain rfl:=sI H
       case' L44n=>
        intro c8 H;have c8b0:=dF c8;clear c8;obtain rfl:=sI H
      case' L43n=>
       intro c7 H;have c7b0:=geF c7;clear c7;obtain rfl:=sI H
    case' L35n=>
     rintro ⟨c5b0,c5b1⟩ c5 H;obtain rfl:=sI H
   case' L34n=>
    intro c4 H;have c4b0:=dF c4;clear c4;revert H;refine itR ?L45p ?L45n
    case' L45p=>
     intro c5 H;have c5b0:=geT c5;clear c5;revert H;refine itR ?L46p ?L46n
     case' L46p=>
      intro c6 H;have c6b0:=dT c6;clear c6;revert H;refine itQ ?L47p ?L47n
      case' L47p=>
       rintro ⟨c7b0,c7b1⟩ H;revert H;refine itR ?L48p ?L48n
       case' L48p=>
        intro c8 H;have c8b0:=geT c8;clear c8;revert H;refine itR ?L49p ?L49n
        case' L49p=>
         intro c9 H;have c9b0:=dT c9;clear c9;obtain rfl:=sI H
        case' L49n=>
         intro c9 H;have c9b0:=dF c9;clear c9;obtain rfl:=sI H
       case' L48n=>
        intro c8 H;have c8b0:=geF c8;clear c8;obtain rfl:=sI H
      case' L47n=>
       rintro ⟨c7b0,c7b1⟩ c7 H;obtain rfl:=sI H
     case' L46n=>
      intro c6 H;have c6b0:=dF c6;clear c6;revert H;refine itR ?L50p ?L50n
      case' L50p=>
       intro c7 H;have c7b0:=geT c7;clear c7;revert H;refine itR ?L51p ?L51n
       case' L51p=>
        intro c8 H;have c8b0:=dT c8;clear c8;obtain rfl:=sI H
       case' L51n=>
        intro c8 H;have c8b0:=dF c8;clear c8;obtain rfl:=sI H
      case' L50n=>
       intro c7 H;have c7b0:=geF c7;clear c7;obtain rfl:=sI H
    case' L45n=>
     intro c5 H;have c5b0:=geF c5;clear c5;revert H;refine itR ?L52p ?L52n
     case' L52p=>
      intro c6 H;have c6b0:=geT c6;clear c6;revert H;refine itR ?L53p ?L53n
      case' L53p=>
       intro c7 H;have c7b0:=dT c7;clear c7;obtain rfl:=sI H
      case' L53n=>
       intro c7 H;have c7b0:=dF c7;clear c7;obtain rfl:=sI H
     case' L52n=>
      intro c6 H;have c6b0:=geF c6;clear c6;obtain rfl:=sI H
  case' L33n=>
   intro c3 H;have c3b0:=geF c3;clear c3;revert H;refine itR ?L54p ?L54n
   case' L54p=>
    intro c4 H;have c4b0:=geT c4;clear c4;revert H;refine itR ?L55p ?L55n
    case' L55p=>
     intro c5 H;have c5b0:=dT c5;clear c5;revert H;refine itQ ?L56p ?L56n
     case' L56p=>
      rintro ⟨c6b0,c6b1⟩ H;revert H;refine itR ?L57p ?L57n
      case' L57p=>
       intro c7 H;have c7b0:=geT c7;clear c7;revert H;refine itR ?L58p ?L58n
       case' L58p=>
        intro c8 H;have c8b0:=dT c8;clear c8;obtain rfl:=sI H
       case' L58n=>
        intro c8 H;have c8b0:=dF c8;clear c8;obtain rfl:=sI H
      case' L57n=>
       intro c7 H;have c7b0:=geF c7;clear c7;obtain rfl:=sI H
     case' L56n=>
      rintro ⟨c6b0,c6b1⟩ c6 H;obtain rfl:=sI H
    case' L55n=>
     intro c5 H;have c5b0:=dF c5;clear c5;revert H;refine itR ?L59p ?L59n
     case' L59p=>
      intro c6 H;have c6b0:=geT c6;clear c6;revert H;refine itR ?L60p ?L60n
      case' L60p=>
       intro c7 H;have c7b0:=dT c7;clear c7;obtain rfl:=sI H
      case' L60n=>
       intro c7 H;have c7b0:=dF c7;clear c7;obtain rfl:=sI H
     case' L59n=>
      intro c6 H;have c6b0:=geF c6;clear c6;obtain rfl:=sI H
   case' L54n=>
    intro c4 H;have c4b0:=geF c4;clear c4;revert H;refine itR ?L61p ?L61n
    case' L61p=>
     intro c5 H;have c5b0:=geT c5;clear c5;revert H;refine itR ?L62p ?L62n
     case' L62p=>
      intro c6 H;have c6b0:=dT c6;clear c6;obtain rfl:=sI H
     case' L62n=>
      intro c6 H;have c6b0:=dF c6;clear c6;obtain rfl:=sI H
    case' L61n=>
     intro c5 H;have c5b0:=geF c5;clear c5;obtain rfl:=sI H
 all_goals
  case _=>
   go_enter Tryz.func154,Tryz.ntmps154;go_wp2;go_ret;exact ⟨endS,drA⟩
def R02_Fold.l0:Nat→List Int→ByteArray→Int→Option (ByteArray)
 | 0,_,_,_=>none
 | k+1,x3,x4,x5=>if x5<(x3.length:Int) then (if 0≤x5 then ((R02_Small.f (rd x3 x5)).bind fun t513=>((R02_Bytes.f t513).bind fun t514=>(if x4.size+t514.size≤9223372036854775807 then (R02_Fold.l0 k x3 (x4++t514) (wrap64 (x5+1))) else (none)))) else (none)) else (some x4)
def R02_Fold.f (k:Nat) (a0:ByteArray):Option (ByteArray):=(R02_Valid.f k a0).bind fun t508=>(if t508=true then ((R02_Runes.f k a0).bind fun t509=>(R02_Fold.l0 k t509 (⟨#[]⟩:ByteArray) 0)) else (some a0))
theorem R02_Fold.calls (k:Nat) (a0:ByteArray) (r:ByteArray) (w:World) (h:R02_Fold.f k a0=some r):
  Calls Tryz.prog 114 #[.string a0] w fun e w'=>e=.returned (.string r)∧Below w.heap.size w w':=by
 have HB:=aM (Below.refl w.heap.size w);unfold R02_Fold.f at h;have H:=h;clear h;replace H:=bnA H;obtain ⟨t508,A2,H⟩:=H;revert H;refine itR ?L6p ?L6n
 case' L6p=>
  intro c3 H;subst c3;replace H:=bnA H;obtain ⟨t509,A4,H⟩:=H;have H':=aM H;clear H;have M4:=trivial
 case' L6n=>
  intro c3 H;replace c3:=Bool.eq_false_iff.mpr c3;subst c3;obtain rfl:=sI H;have M5:=trivial
 all_goals
  case _=>
   go_enter Tryz.func114,Tryz.ntmps114;go_wp2_with (first|((with_reducible refine gate_callee (f:=89) rfl ?_);refine goesA (some 7) Tryz.func89 #[.string a0] ?_;(with_reducible refine (R02_Valid.calls _ _ _ _ A2.out).mono ?_);rintro e w101 ⟨rfl,hb⟩;refine ⟨_,rfl,?_⟩;replace HB:=aM (below_step (bwA) hb);(try clear hb);apply stopA;(case other=>exact trivial)))
   case _=>
    first
     | clear M4
       try go_wp2_with (first|((with_reducible refine gate_callee (f:=90) rfl ?_);refine goesA (some 11) Tryz.func90 #[.string a0] ?_;(with_reducible refine (R02_Runes.calls _ _ _ _ A4.out).mono ?_);rintro e w102 ⟨v510,rfl,ho0,hb⟩;refine ⟨_,rfl,?_⟩;have HO511:=aM (Kd.R_lower ho0 (below_size (bwA)));replace HB:=aM (below_step (bwA) hb);(try clear hb);(try clear ho0)))
       go_loopg [4,5] k (fun kq v4 v5 w'=>∃ (x4_1:ByteArray) (x5_1:Int),v4=.string x4_1∧v5=.int .i64 x5_1∧Aside0 (R02_Fold.l0 kq t509 x4_1 x5_1=some r)∧Aside0 (kq≤k)∧Aside0 (Kd.R (Kd.int .i64) 3 w' w.heap.size (fun _=>True) v510 t509)∧Aside0 (Below w.heap.size w w'))
       case atStart=>exact ⟨((⟨#[]⟩:ByteArray)),(0),(endS),(endS),H',⟨Nat.le_refl _⟩,⟨raA HO511.out⟩,⟨bwA⟩⟩
       case round=>
        clear H';(try clear c1);(try clear p2);(try clear c3);(try clear c8);(try clear c9);(try clear c11);(try clear c89);(try clear c90);obtain ⟨x4_1,x5_1,rfl,rfl,HA,HK1,HO_3,HB⟩:=hrel
        cases gk with
        | zero=>exact absurd HA.out (by simp [R02_Fold.l0])
        | succ k1=>
         have H:=HA.out;clear HA;simp only [R02_Fold.l0] at H;revert H;refine itR ?L3p ?L3n
         case' L3p=>
          intro c103 H;have c103b0:=dT c103;clear c103;replace H:=itN H;obtain ⟨c104,H⟩:=H;have c104b0:=dT c104;clear c104;replace H:=bnA H;obtain ⟨t513,A105,H⟩:=H;replace H:=bnA H;obtain ⟨t514,A106,H⟩:=H;replace H:=itN H;obtain ⟨c107,H⟩:=H;have c107b0:=eq_true c107;have c107b1:=dT c107;(try have c107b2:(9223372036854775807<x4_1.size+t514.size)=False:=eq_false (Nat.not_lt.2 c107));have H':=aM H;clear H;have M1:=trivial
         case' L3n=>
          intro c103 H;have c103b0:=dF c103;clear c103;obtain rfl:=sI H;have M2:=trivial
         all_goals
          case _=>
           obtain ⟨Ao201,co201,eo201⟩:=Kd.R_slice HO_3.out;subst eo201
           first
            | clear M1
              have p512:0≤(x5_1:Int):=odA;have q512:x5_1<(t509.length:Int):=odA;obtain ⟨ad512,e512,hx512_0⟩:=Kd.at_int (Kd.R_reads' HO_3.out).2.2 x5_1 p512 q512
              cases e512
              replace p512:=eq_true p512;replace q512:=eq_true q512;try go_wp2_with (first|((with_reducible refine gate_callee (f:=154) rfl ?_);refine goesA (some 23) Tryz.func154 #[.int .i64 (rd t509 x5_1)] ?_;(with_reducible refine (R02_Small.calls _ _ _ A105.out).mono ?_);rintro e w' ⟨rfl,⟨nd,rfl⟩⟩;refine ⟨_,rfl,?_⟩)|((with_reducible refine gate_callee (f:=153) rfl ?_);refine goesA (some 24) Tryz.func153 #[.int .i64 t513] ?_;(with_reducible refine (R02_Bytes.calls _ _ _ A106.out).mono ?_);rintro e w202 ⟨rfl,hb⟩;refine ⟨_,rfl,?_⟩;replace HO_3:=aM (Kd.R_below (raA HO_3.out) hb);replace HB:=aM (below_step (bwA) hb);(try clear hb)))
              go_roundg k1
              case measure=>have:=HK1.out;omega
              case rel=>exact ⟨(x4_1++t514),(wrap64 (x5_1+1)),(endS),(endS),H',⟨by have:=HK1.out;omega⟩,⟨raA HO_3.out⟩,⟨bwA⟩⟩
            | clear M2
              go_wp2;go_ret;exact ⟨endA,bwA⟩
     | clear M5
       (try go_wp2_with (fail))
       go_ret;exact ⟨endA,bwA⟩
def R04_same.f (k:Nat) (a0:ByteArray) (a1:ByteArray):Option (Bool):=(R02_Fold.f k a0).bind fun t515=>((R02_Fold.f k a1).bind fun t516=>(some (t515.toList == t516.toList)))
theorem R04_same.calls (k:Nat) (a0:ByteArray) (a1:ByteArray) (r:Bool) (w:World) (h:R04_same.f k a0 a1=some r):
  Calls Tryz.prog 71 #[.string a0,.string a1] w fun e w'=>e=.returned (.bool r)∧Below w.heap.size w w':=by
 have HB:=aM (Below.refl w.heap.size w);unfold R04_same.f at h;have H:=h;clear h;replace H:=Option.bind_eq_some_iff.mp H;obtain ⟨t515,A30,H⟩:=H;replace H:((R02_Fold.f k a1).bind fun t516=>(some (t515.toList == t516.toList)))=some r:=H;have A3:=aM A30;clear A30;replace H:=Option.bind_eq_some_iff.mp H;obtain ⟨t516,A40,H⟩:=H;replace H:(some (t515.toList == t516.toList))=some r:=H;have A4:=aM A40;clear A40;obtain rfl:=sI H;go_enter Tryz.func71,Tryz.ntmps71;go_wp2_with (first|((with_reducible refine gate_callee (f:=114) rfl ?_);refine goesA (some 6) Tryz.func114 #[.string a0] ?_;(with_reducible refine (R02_Fold.calls k a0 t515 _ A3.out).mono ?_);rintro e w101 ⟨rfl,hb⟩;refine ⟨_,rfl,?_⟩;have n0_:=aM (below_step (bwA) hb);clear HB;have HB:=n0_;clear n0_;(try clear hb);(try clear hb2);(try clear hk);(try clear hi))|((with_reducible refine gate_callee (f:=114) rfl ?_);refine goesA (some 8) Tryz.func114 #[.string a1] ?_;(with_reducible refine (R02_Fold.calls k a1 t516 _ A4.out).mono ?_);rintro e w102 ⟨rfl,hb⟩;refine ⟨_,rfl,?_⟩;have n0_:=aM (below_step (bwA) hb);clear HB;have HB:=n0_;clear n0_;(try clear hb);(try clear hb2);(try clear hk);(try clear hi)));go_ret;exact ⟨endA,bwA⟩
def R04_Find.l0:Nat→List (S88)→ByteArray→Int→Option (Int)
 | 0,_,_,_=>none
 | k+1,x0,x1,x5=>if x5<(x0.length:Int) then (if 0≤x5 then ((R04_same.f k ((rd_T88 x0 x5).f0) x1).bind fun t518=>(if t518=true then (some x5) else (R04_Find.l0 k x0 x1 (wrap64 (x5+1))))) else (none)) else (some (-1))
def R04_Find.f (k:Nat) (l0:List (S88)) (a1:ByteArray):Option (Int):=R04_Find.l0 k l0 a1 0
theorem R04_Find.calls (k:Nat) (A0:Option Addr) (c0:Nat) (l0:List (S88)) (a1:ByteArray) (r:Int) (w:World) (hr0:Kd.C k88 w A0 l0.length l0) (hc0:l0.length≤c0) (h:R04_Find.f k l0 a1=some r):
  Calls Tryz.prog 33 #[.slice A0 l0.length c0,.string a1] w fun e w'=>e=.returned (.int .i64 r)∧Below w.heap.size w w':=by
 have HR0:=aM hr0;have HC0:=aM hc0;clear hr0 hc0;have HB:=aM (Below.refl w.heap.size w);unfold R04_Find.f at h;have H:=h;clear h;have H':=aM H;clear H;go_enter Tryz.func33,Tryz.ntmps33;go_wp2
 go_loopg [5] k (fun kq v5 w'=>∃ (x5_1:Int),v5=.int .i64 x5_1∧Aside0 (R04_Find.l0 kq l0 a1 x5_1=some r)∧Aside0 (kq≤k)∧Aside0 (Below w.heap.size w w'))
 case atStart=>exact ⟨(0),(endS),H',⟨Nat.le_refl _⟩,⟨bwA⟩⟩
 case round=>
  clear H';(try clear p2);(try clear c3);(try clear c33);obtain ⟨x5_1,rfl,HA,HK1,HB⟩:=hrel
  cases gk with
  | zero=>exact absurd HA.out (by simp [R04_Find.l0])
  | succ k1=>
   have H:=HA.out;clear HA;simp only [R04_Find.l0] at H;revert H;refine itR ?L3p ?L3n
   case' L3p=>
    intro c101 H;have c101b0:=dT c101;clear c101;replace H:=itN H;obtain ⟨c102,H⟩:=H;have c102b0:=dT c102;clear c102;replace H:=bnA H;obtain ⟨t518,A103,H⟩:=H;revert H;refine itR ?L4p ?L4n
    case' L4p=>
     intro c104 H;subst c104;obtain rfl:=sI H;have M1:=trivial
    case' L4n=>
     intro c104 H;replace c104:=Bool.eq_false_iff.mpr c104;subst c104;have H':=aM H;clear H;have M2:=trivial
   case' L3n=>
    intro c101 H;have c101b0:=dF c101;clear c101;obtain rfl:=sI H;go_wp2;go_ret;exact ⟨endA,bwA⟩
   all_goals
    case _=>
     have p517:0≤(x5_1:Int):=odA;have q517:x5_1<(l0.length:Int):=odA;obtain ⟨ad517,e517,hx517_0,hx517_1,hx517_2⟩:=at_T88 HR0.out x5_1 p517 q517
     cases e517
     replace hx517_0:=crA hx517_0;replace hx517_1:=crA hx517_1;replace hx517_2:=crA hx517_2;replace p517:=eq_true p517;replace q517:=eq_true q517;try go_wp2_with (first|((with_reducible refine gate_callee (f:=71) rfl ?_);refine goesA (some 18) Tryz.func71 #[.string ((rd_T88 l0 x5_1).f0),.string a1] ?_;(with_reducible refine (R04_same.calls _ _ _ _ _ A103.out).mono ?_);rintro e w201 ⟨rfl,hb⟩;refine ⟨_,rfl,?_⟩;replace HB:=aM (below_step (bwA) hb);(try clear hb)))
     first
      | clear M1
        go_ret;exact ⟨endA,bwA⟩
      | clear M2
        go_roundg k1
        case measure=>have:=HK1.out;omega
        case rel=>exact ⟨(wrap64 (x5_1+1)),(endS),H',⟨by have:=HK1.out;omega⟩,⟨bwA⟩⟩
def R04_Within.l0:Nat→List (S88)→List (S88)→Int→Option (Bool)
 | 0,_,_,_=>none
 | k+1,x0,x1,x5=>if x5<(x0.length:Int) then (if 0≤x5 then ((R04_Find.f k x1 ((rd_T88 x0 x5).f0)).bind fun t520=>(if t520<0 then (some false) else (if 0≤t520 then (if t520<(x1.length:Int) then (if ((rd_T88 x1 t520).f1)=((rd_T88 x0 x5).f1) then (if (((rd_T88 x1 t520).f2) != ((rd_T88 x0 x5).f2))=true then (some false) else (R04_Within.l0 k x0 x1 (wrap64 (x5+1)))) else (some false)) else (none)) else (none)))) else (none)) else (some true)
def R04_Within.f (k:Nat) (l0:List (S88)) (l1:List (S88)):Option (Bool):=R04_Within.l0 k l0 l1 0
theorem R04_Within.calls (k:Nat) (A0:Option Addr) (c0:Nat) (l0:List (S88)) (A1:Option Addr) (c1:Nat) (l1:List (S88)) (r:Bool) (w:World) (hr0:Kd.C k88 w A0 l0.length l0) (hc0:l0.length≤c0) (hr1:Kd.C k88 w A1 l1.length l1) (hc1:l1.length≤c1) (h:R04_Within.f k l0 l1=some r):
  Calls Tryz.prog 25 #[.slice A0 l0.length c0,.slice A1 l1.length c1] w fun e w'=>e=.returned (.bool r)∧Below w.heap.size w w':=by
 have HR0:=aM hr0;have HC0:=aM hc0;clear hr0 hc0;have HR1:=aM hr1;have HC1:=aM hc1;clear hr1 hc1;have HB:=aM (Below.refl w.heap.size w);unfold R04_Within.f at h;have H:=h;clear h;have H':=aM H;clear H;go_enter Tryz.func25,Tryz.ntmps25;go_wp2;repeat (go_quiet (fail);try go_wp2)
 go_loopg [5] k (fun kq v5 w'=>∃ (x5_1:Int),v5=.int .i64 x5_1∧Aside0 (R04_Within.l0 kq l0 l1 x5_1=some r)∧Aside0 (kq≤k)∧Aside0 (Below w.heap.size w w'))
 case atStart=>exact ⟨(0),(endS),H',⟨Nat.le_refl _⟩,⟨bwA⟩⟩
 case round=>
  clear H';(try clear c1);(try clear c2);(try clear p2);(try clear c25);obtain ⟨x5_1,rfl,HA,HK1,HB⟩:=hrel
  cases gk with
  | zero=>exact absurd HA.out (by simp [R04_Within.l0])
  | succ k1=>
   have H:=HA.out;clear HA;simp only [R04_Within.l0] at H;revert H;refine itR ?L7p ?L7n
   case' L7p=>
    intro c101 H;have c101b0:=dT c101;clear c101;replace H:=itN H;obtain ⟨c102,H⟩:=H;have c102b0:=dT c102;clear c102;replace H:=bnA H;obtain ⟨t520,A103,H⟩:=H;revert H;refine itR ?L8p ?L8n
    case' L8p=>
     intro c104 H;have c104b0:=dT c104;clear c104;obtain rfl:=sI H;have M1:=trivial
    case' L8n=>
     intro c104 H;have c104b0:=dF c104;clear c104;replace H:=itN H;obtain ⟨c105,H⟩:=H;have c105b0:=dT c105;clear c105;replace H:=itN H;obtain ⟨c106,H⟩:=H;have c106b0:=dT c106;clear c106;revert H;refine itQ ?L9p ?L9n
     case' L9p=>
      rintro ⟨c107b0,c107b1⟩ H;revert H;refine itR ?L10p ?L10n
      case' L10p=>
       intro c108 H;have c108b0:(((rd_T88 l1 t520).f2) != ((rd_T88 l0 x5_1).f2))=true:=c108
       (try (have c108b1:decide (((rd_T88 l1 t520).f2)=((rd_T88 l0 x5_1).f2))=false:=by simpa using c108))
       (try (have c108b2:(((rd_T88 l1 t520).f2) == ((rd_T88 l0 x5_1).f2))=false:=by simpa using c108))
       (try (have c108b3:¬ (((rd_T88 l1 t520).f2)=((rd_T88 l0 x5_1).f2)):=by simpa using c108))
       clear c108;obtain rfl:=sI H;have M2:=trivial;have M3:=trivial;have M4:=trivial
      case' L10n=>
       intro c108 H;have c108b0:(((rd_T88 l1 t520).f2) != ((rd_T88 l0 x5_1).f2))=false:=by simpa using c108
       (try (have c108b1:decide (((rd_T88 l1 t520).f2)=((rd_T88 l0 x5_1).f2))=true:=by simpa using c108))
       (try (have c108b2:(((rd_T88 l1 t520).f2) == ((rd_T88 l0 x5_1).f2))=true:=by simpa using c108))
       clear c108;have H':=aM H;clear H;have M2:=trivial;have M3:=trivial;have M5:=trivial
     case' L9n=>
      rintro ⟨c107b0,c107b1⟩ c107 H;obtain rfl:=sI H;have M2:=trivial;have M6:=trivial
   case' L7n=>
    intro c101 H;have c101b0:=dF c101;clear c101;obtain rfl:=sI H;go_wp2;(repeat (go_quiet (fail);try go_wp2));go_ret;exact ⟨endA,bwA⟩
   all_goals
    case _=>
     have p519:0≤(x5_1:Int):=odA;have q519:x5_1<(l0.length:Int):=odA;obtain ⟨ad519,e519,hx519_0,hx519_1,hx519_2⟩:=at_T88 HR0.out x5_1 p519 q519
     cases e519
     replace hx519_0:=crA hx519_0;replace hx519_1:=crA hx519_1;replace hx519_2:=crA hx519_2;replace p519:=eq_true p519;replace q519:=eq_true q519;go_wp2_with (first|(go_at_call 33;(with_reducible refine (R04_Find.calls _ _ _ _ _ _ _ ?side1 ?side2 A103.out).mono ?_);(case side1=>exact Kd.C_below HR1.out (bwA));(case side2=>exact HC1.out);rintro e w201 ⟨rfl,hb⟩;replace HB:=aM (below_step (bwA) hb);(try clear hb);apply stopA;(case other=>exact trivial)))
     case _=>
      first
       | clear M1
         (try go_wp2_with (fail))
         (repeat (go_quiet (first|(go_at_call 33;(with_reducible refine (R04_Find.calls _ _ _ _ _ _ _ ?side1 ?side2 A103.out).mono ?_);(case side1=>exact Kd.C_below HR1.out (bwA));(case side2=>exact HC1.out);rintro e w201 ⟨rfl,hb⟩;have n0_:=aM (below_step (bwA) hb);clear HB;have HB:=n0_;clear n0_;(try clear hb);(try clear hb2);(try clear hk);(try clear hi)));try go_wp2_with (first|(go_at_call 33;(with_reducible refine (R04_Find.calls k1 _ _ l1 ((rd_T88 l0 x5_1).f0) t520 _ ?side1 ?side2 A103.out).mono ?_);(case side1=>exact Kd.C_below HR1.out (bwA));(case side2=>exact HC1.out);rintro e w201 ⟨rfl,hb⟩;have n0_:=aM (below_step (bwA) hb);clear HB;have HB:=n0_;clear n0_;(try clear hb);(try clear hb2);(try clear hk);(try clear hi)))));go_ret;exact ⟨endA,bwA⟩
       | clear M2
         have p521:0≤(t520:Int):=odA;have q521:t520<(l1.length:Int):=odA;obtain ⟨ad521,e521,hx521_0,hx521_1,hx521_2⟩:=at_T88 HR1.out t520 p521 q521
         cases e521
         replace hx521_0:=crA hx521_0;replace hx521_1:=crA hx521_1;replace hx521_2:=crA hx521_2;replace p521:=eq_true p521;replace q521:=eq_true q521;have p522:0≤(x5_1:Int):=odA;have q522:x5_1<(l0.length:Int):=odA;obtain ⟨ad522,e522,hx522_0,hx522_1,hx522_2⟩:=at_T88 HR0.out x5_1 p522 q522;obtain rfl:ad519=ad522:=(by injection e522);replace hx522_0:=crA hx522_0;replace hx522_1:=crA hx522_1;replace hx522_2:=crA hx522_2;replace p522:=eq_true p522;replace q522:=eq_true q522
         first
          | clear M3
            have p523:0≤(t520:Int):=odA;have q523:t520<(l1.length:Int):=odA;obtain ⟨ad523,e523,hx523_0,hx523_1,hx523_2⟩:=at_T88 HR1.out t520 p523 q523;obtain rfl:ad521=ad523:=(by injection e523);replace hx523_0:=crA hx523_0;replace hx523_1:=crA hx523_1;replace hx523_2:=crA hx523_2;replace p523:=eq_true p523;replace q523:=eq_true q523;have p524:0≤(x5_1:Int):=odA;have q524:x5_1<(l0.length:Int):=odA;obtain ⟨ad524,e524,hx524_0,hx524_1,hx524_2⟩:=at_T88 HR0.out x5_1 p524 q524;obtain rfl:ad519=ad524:=(by injection e524);replace hx524_0:=crA hx524_0;replace hx524_1:=crA hx524_1;replace hx524_2:=crA hx524_2;replace p524:=eq_true p524;replace q524:=eq_true q524
            (try go_wp2_with (fail))
            repeat (go_quiet (first|(go_at_call 33;(with_reducible refine (R04_Find.calls _ _ _ _ _ _ _ ?side1 ?side2 A103.out).mono ?_);(case side1=>exact Kd.C_below HR1.out (bwA));(case side2=>exact HC1.out);rintro e w201 ⟨rfl,hb⟩;have n0_:=aM (below_step (bwA) hb);clear HB;have HB:=n0_;clear n0_;(try clear hb);(try clear hb2);(try clear hk);(try clear hi);have p521:0≤(t520:Int):=odA;have q521:t520<(l1.length:Int):=odA;obtain ⟨ad521,e521,hx521_0,hx521_1,hx521_2⟩:=at_T88 HR1.out t520 p521 q521;cases e521;replace hx521_0:=crA hx521_0;replace hx521_1:=crA hx521_1;replace hx521_2:=crA hx521_2;replace p521:=eq_true p521;replace q521:=eq_true q521;have p522:0≤(x5_1:Int):=odA;have q522:x5_1<(l0.length:Int):=odA;obtain ⟨ad522,e522,hx522_0,hx522_1,hx522_2⟩:=at_T88 HR0.out x5_1 p522 q522;obtain rfl:ad519=ad522:=(by injection e522);replace hx522_0:=crA hx522_0;replace hx522_1:=crA hx522_1;replace hx522_2:=crA hx522_2;replace p522:=eq_true p522;replace q522:=eq_true q522;have p523:0≤(t520:Int):=odA;have q523:t520<(l1.length:Int):=odA;obtain ⟨ad523,e523,hx523_0,hx523_1,hx523_2⟩:=at_T88 HR1.out t520 p523 q523;obtain rfl:ad521=ad523:=(by injection e523);replace hx523_0:=crA hx523_0;replace hx523_1:=crA hx523_1;replace hx523_2:=crA hx523_2;replace p523:=eq_true p523;replace q523:=eq_true q523;have p524:0≤(x5_1:Int):=odA;have q524:x5_1<(l0.length:Int):=odA;obtain ⟨ad524,e524,hx524_0,hx524_1,hx524_2⟩:=at_T88 HR0.out x5_1 p524 q524;obtain rfl:ad519=ad524:=(by injection e524);replace hx524_0:=crA hx524_0;replace hx524_1:=crA hx524_1;replace hx524_2:=crA hx524_2;replace p524:=eq_true p524;replace q524:=eq_true q524));try go_wp2_with (first|(go_at_call 33;(with_reducible refine (R04_Find.calls k1 _ _ l1 ((rd_T88 l0 x5_1).f0) t520 _ ?side1 ?side2 A103.out).mono ?_);(case side1=>exact Kd.C_below HR1.out (bwA));(case side2=>exact HC1.out);rintro e w201 ⟨rfl,hb⟩;have n0_:=aM (below_step (bwA) hb);clear HB;have HB:=n0_;clear n0_;(try clear hb);(try clear hb2);(try clear hk);(try clear hi);have p521:0≤(t520:Int):=odA;have q521:t520<(l1.length:Int):=odA;obtain ⟨ad521,e521,hx521_0,hx521_1,hx521_2⟩:=at_T88 HR1.out t520 p521 q521;cases e521;replace hx521_0:=crA hx521_0;replace hx521_1:=crA hx521_1;replace hx521_2:=crA hx521_2;replace p521:=eq_true p521;replace q521:=eq_true q521;have p522:0≤(x5_1:Int):=odA;have q522:x5_1<(l0.length:Int):=odA;obtain ⟨ad522,e522,hx522_0,hx522_1,hx522_2⟩:=at_T88 HR0.out x5_1 p522 q522;obtain rfl:ad519=ad522:=(by injection e522);replace hx522_0:=crA hx522_0;replace hx522_1:=crA hx522_1;replace hx522_2:=crA hx522_2;replace p522:=eq_true p522;replace q522:=eq_true q522;have p523:0≤(t520:Int):=odA;have q523:t520<(l1.length:Int):=odA;obtain ⟨ad523,e523,hx523_0,hx523_1,hx523_2⟩:=at_T88 HR1.out t520 p523 q523;obtain rfl:ad521=ad523:=(by injection e523);replace hx523_0:=crA hx523_0;replace hx523_1:=crA hx523_1;replace hx523_2:=crA hx523_2;replace p523:=eq_true p523;replace q523:=eq_true q523;have p524:0≤(x5_1:Int):=odA;have q524:x5_1<(l0.length:Int):=odA;obtain ⟨ad524,e524,hx524_0,hx524_1,hx524_2⟩:=at_T88 HR0.out x5_1 p524 q524;obtain rfl:ad519=ad524:=(by injection e524);replace hx524_0:=crA hx524_0;replace hx524_1:=crA hx524_1;replace hx524_2:=crA hx524_2;replace p524:=eq_true p524;replace q524:=eq_true q524)))
            first
             | clear M4
               go_ret;exact ⟨endA,bwA⟩
             | clear M5
               go_roundg k1
               case measure=>have:=HK1.out;omega
               case rel=>exact ⟨(wrap64 (x5_1+1)),(endS),H',⟨by have:=HK1.out;omega⟩,⟨bwA⟩⟩
          | clear M6
            (try go_wp2_with (fail))
            (repeat (go_quiet (first|(go_at_call 33;(with_reducible refine (R04_Find.calls _ _ _ _ _ _ _ ?side1 ?side2 A103.out).mono ?_);(case side1=>exact Kd.C_below HR1.out (bwA));(case side2=>exact HC1.out);rintro e w201 ⟨rfl,hb⟩;have n0_:=aM (below_step (bwA) hb);clear HB;have HB:=n0_;clear n0_;(try clear hb);(try clear hb2);(try clear hk);(try clear hi);have p521:0≤(t520:Int):=odA;have q521:t520<(l1.length:Int):=odA;obtain ⟨ad521,e521,hx521_0,hx521_1,hx521_2⟩:=at_T88 HR1.out t520 p521 q521;cases e521;replace hx521_0:=crA hx521_0;replace hx521_1:=crA hx521_1;replace hx521_2:=crA hx521_2;replace p521:=eq_true p521;replace q521:=eq_true q521;have p522:0≤(x5_1:Int):=odA;have q522:x5_1<(l0.length:Int):=odA;obtain ⟨ad522,e522,hx522_0,hx522_1,hx522_2⟩:=at_T88 HR0.out x5_1 p522 q522;obtain rfl:ad519=ad522:=(by injection e522);replace hx522_0:=crA hx522_0;replace hx522_1:=crA hx522_1;replace hx522_2:=crA hx522_2;replace p522:=eq_true p522;replace q522:=eq_true q522));try go_wp2_with (first|(go_at_call 33;(with_reducible refine (R04_Find.calls k1 _ _ l1 ((rd_T88 l0 x5_1).f0) t520 _ ?side1 ?side2 A103.out).mono ?_);(case side1=>exact Kd.C_below HR1.out (bwA));(case side2=>exact HC1.out);rintro e w201 ⟨rfl,hb⟩;have n0_:=aM (below_step (bwA) hb);clear HB;have HB:=n0_;clear n0_;(try clear hb);(try clear hb2);(try clear hk);(try clear hi);have p521:0≤(t520:Int):=odA;have q521:t520<(l1.length:Int):=odA;obtain ⟨ad521,e521,hx521_0,hx521_1,hx521_2⟩:=at_T88 HR1.out t520 p521 q521;cases e521;replace hx521_0:=crA hx521_0;replace hx521_1:=crA hx521_1;replace hx521_2:=crA hx521_2;replace p521:=eq_true p521;replace q521:=eq_true q521;have p522:0≤(x5_1:Int):=odA;have q522:x5_1<(l0.length:Int):=odA;obtain ⟨ad522,e522,hx522_0,hx522_1,hx522_2⟩:=at_T88 HR0.out x5_1 p522 q522;obtain rfl:ad519=ad522:=(by injection e522);replace hx522_0:=crA hx522_0;replace hx522_1:=crA hx522_1;replace hx522_2:=crA hx522_2;replace p522:=eq_true p522;replace q522:=eq_true q522))));go_ret;exact ⟨endA,bwA⟩
def R02_Split.l0:Nat→List Int→List (List Int)→List Int→Int→Option ((List (List Int)))
 | 0,_,_,_,_=>none
 | k+1,x0,x3,x4,x5=>if x5<(x0.length:Int) then (if 0≤x5 then (if (rd x0 x5)=46 then (if x3.length<5864062014805 then (R02_Split.l0 k x0 (x3++[x4]) ([]:List Int) (wrap64 (x5+1))) else (none)) else (if x4.length<17592186044416 then (R02_Split.l0 k x0 x3 (x4++[rd x0 x5]) (wrap64 (x5+1))) else (none))) else (none)) else (if x3.length<5864062014805 then (some (x3++[x4])) else (none))
def R02_Split.f (k:Nat) (l0:List Int):Option ((List (List Int))):=R02_Split.l0 k l0 ([]:List (List Int)) ([]:List Int) 0
theorem R02_Split.calls (k:Nat) (A0:Option Addr) (c0:Nat) (l0:List Int) (r:List (List Int)) (w:World) (hr0:Kd.C (Kd.int .i64) w A0 l0.length l0) (hc0:l0.length≤c0) (h:R02_Split.f k l0=some r):
  Calls Tryz.prog 91 #[.slice A0 l0.length c0] w fun e w'=>∃ v0_:Value,e=.returned (v0_)∧Kd.S (Kd.slice 3 (Kd.int .i64)) 120 w' w.heap.size (fun _=>True) v0_ r∧Below w.heap.size w w':=by
 have HR0:=aM hr0;have HC0:=aM hc0;clear hr0 hc0;have HB:=aM (Below.refl w.heap.size w);unfold R02_Split.f at h;have H:=h;clear h;have H':=aM H;clear H;go_enter Tryz.func91,Tryz.ntmps91;go_wp2
 go_loopg [3,4,5] k (fun kq v3 v4 v5 w'=>∃ (x3_1:List (List Int)) (x4_1:List Int) (x5_1:Int),v5=.int .i64 x5_1∧Aside0 (R02_Split.l0 kq l0 x3_1 x4_1 x5_1=some r)∧Aside0 (kq≤k)∧Aside0 (Kd.S (Kd.slice 3 (Kd.int .i64)) 120 w' w.heap.size (fun k_=>some k_≠(v4:Value).ownBlock) v3 x3_1)∧Aside0 (Kd.R (Kd.int .i64) 3 w' w.heap.size (fun _=>True) v4 x4_1)∧Aside0 (Below w.heap.size w w'))
 case atStart=>exact ⟨(([]:List (List Int))),(([]:List Int)),(0),(endS),H',⟨Nat.le_refl _⟩,⟨by first|exact Kd.S_nil _ _ _ _ _|exact Kd.N_nil _ _ _ _ _|exact Kd.V_nil _ _ _ _ _|exact Kd.Q_nil _ _ _ _ _|exact Kd.R_nil _ _ _ _ _⟩,⟨by first|exact Kd.R_nil _ _ _ _ _|exact Kd.N_nil _ _ _ _ _|exact Kd.V_nil _ _ _ _ _|exact Kd.Q_nil _ _ _ _ _|exact Kd.S_nil _ _ _ _ _⟩,⟨bwA⟩⟩
 case round=>
  clear H';(try clear p2);(try clear c9);(try clear c91);obtain ⟨x3_1,x4_1,x5_1,rfl,HA,HK1,HO_3,HO_4,HB⟩:=hrel
  cases gk with
  | zero=>exact absurd HA.out (by simp [R02_Split.l0])
  | succ k1=>
   have H:=HA.out;clear HA;simp only [R02_Split.l0] at H;revert H;refine itR ?L3p ?L3n
   case' L3p=>
    intro c101 H;have c101b0:=dT c101;clear c101;replace H:=itN H;obtain ⟨c102,H⟩:=H;have c102b0:=dT c102;clear c102;revert H;refine itQ ?L4p ?L4n
    case' L4p=>
     rintro ⟨c103b0,c103b1⟩ H;replace H:=itN H;obtain ⟨c104,H⟩:=H;have LMc104:=aM c104;clear c104
     first|((with_reducible replace H:=bsG H);obtain ⟨y526,Ny526,H⟩:=H)|(obtain ⟨y526,hy526⟩:∃ y_:List (List Int),y_=(x3_1++[x4_1]):=⟨_,rfl⟩;rw [← hy526] at H;have Ny526:=aM hy526;clear hy526)
     have H':=aM H;clear H;have M1:=trivial
    case' L4n=>
     rintro ⟨c103b0,c103b1⟩ c103 H;replace H:=itN H;obtain ⟨c104,H⟩:=H;have LMc104:=aM c104;clear c104
     first|((with_reducible replace H:=bsG H);obtain ⟨y530,Ny530,H⟩:=H)|(obtain ⟨y530,hy530⟩:∃ y_:List Int,y_=(x4_1++[rd l0 x5_1]):=⟨_,rfl⟩;rw [← hy530] at H;have Ny530:=aM hy530;clear hy530)
     have H':=aM H;clear H;have M2:=trivial
   case' L3n=>
    intro c101 H;have c101b0:=dF c101;clear c101;replace H:=itN H;obtain ⟨c102,H⟩:=H;have LMc102:=aM c102;clear c102
    first|((with_reducible replace H:=bsG H);obtain ⟨y533,Ny533,H⟩:=H)|(obtain ⟨y533,hy533⟩:∃ y_:List (List Int),y_=(x3_1++[x4_1]):=⟨_,rfl⟩;rw [← hy533] at H;have Ny533:=aM hy533;clear hy533)
    obtain rfl:=sI H;obtain ⟨Ao202,co202,eo202⟩:=Kd.R_slice HO_4.out;subst eo202;(try go_wp2_with (first|((with_reducible refine gate_builtin (b:=.append) (xs:=#[.tmp 28,.tmp 30]) rfl ?_);at_builtin;refine Kd.S_append (Kd.slice 3 (Kd.int .i64)) (w0:=w) w.heap.size rfl (.tmp 28) (.tmp 30) 144 120 (.slice none 0 0) 24 rfl Tryz.underlying144 info120 rfl (by decide) (by omega) u3 x3_1 x4_1 [.slice Ao202 x4_1.length co202] (fun _=>True) (fun k_=>some k_=(.slice Ao202 x4_1.length co202:Value).ownBlock) rfl rfl ?aP (fun k_ hk_=>((Kd.R_mono (ok':=fun k_=>((fun _=>True)) k_∧some k_≠(u3:Value).ownBlock) (Kd.R_apart' (HO_4.out) (Kd.S_typed HO_3.out) (by decide)) (fun k_ hk=>⟨trivial,hk.2⟩))).1 k_ hk_.symm) ?aF ?aO ?aB ?aS ?aL ?_;(case aP=>exact Kd.M_row (Kd.R_mono (Kd.R_tight rfl (Kd.R_mono (ok':=fun k_=>((fun _=>True)) k_∧some k_≠(u3:Value).ownBlock) (Kd.R_apart' (HO_4.out) (Kd.S_typed HO_3.out) (by decide)) (fun k_ hk=>⟨trivial,hk.2⟩))) (fun _ h_=>h_)));(case aB=>exact (bwA));(case aF=>exact (fun _ _=>trivial));(case aO=>exact (by (with_reducible repeat (first|apply Kd.S_alloc|apply Kd.S_drewN|apply Kd.S_drew));exact Kd.S_mono HO_3.out (fun k_ hk=>⟨trivial,fun e_=>hk e_⟩)));(case aS=>exact (below_size (bwA)));(case aL=>have:=LMc102.out;omega);intro v534 w201 ho hb hg hat;rw [← Ny533.out] at ho;have n0_:=aM (hb);have n1_:=aM (ho);clear HB;clear HO_3;clear HO_4;have HB:=n0_;have HO535:=n1_;clear n0_ n1_;clear ho hb hg hat)));go_ret;exact ⟨_,endA,by (with_reducible repeat (first|apply Kd.S_alloc|apply Kd.S_drewN|apply Kd.S_drew));exact HO535.out,bwA⟩
   all_goals
    case _=>
     have p525:0≤(x5_1:Int):=odA;have q525:x5_1<(l0.length:Int):=odA;obtain ⟨ad525,e525,hx525_0⟩:=Kd.at_int HR0.out x5_1 p525 q525
     cases e525
     replace hx525_0:=crA hx525_0;replace p525:=eq_true p525;replace q525:=eq_true q525
     first
      | clear M1
        obtain ⟨Ao202,co202,eo202⟩:=Kd.R_slice HO_4.out;subst eo202;try go_wp2_with (first|((with_reducible refine gate_builtin (b:=.append) (xs:=#[.tmp 17,.tmp 19]) rfl ?_);at_builtin;refine Kd.S_append (Kd.slice 3 (Kd.int .i64)) (w0:=w) w.heap.size rfl (.tmp 17) (.tmp 19) 144 120 (.slice none 0 0) 24 rfl Tryz.underlying144 info120 rfl (by decide) (by omega) u3 x3_1 x4_1 [.slice Ao202 x4_1.length co202] (fun _=>True) (fun k_=>some k_=(.slice Ao202 x4_1.length co202:Value).ownBlock) rfl rfl ?aP (fun k_ hk_=>((Kd.R_mono (ok':=fun k_=>((fun _=>True)) k_∧some k_≠(u3:Value).ownBlock) (Kd.R_apart' (HO_4.out) (Kd.S_typed HO_3.out) (by decide)) (fun k_ hk=>⟨trivial,hk.2⟩))).1 k_ hk_.symm) ?aF ?aO ?aB ?aS ?aL ?_;(case aP=>exact Kd.M_row (Kd.R_mono (Kd.R_tight rfl (Kd.R_mono (ok':=fun k_=>((fun _=>True)) k_∧some k_≠(u3:Value).ownBlock) (Kd.R_apart' (HO_4.out) (Kd.S_typed HO_3.out) (by decide)) (fun k_ hk=>⟨trivial,hk.2⟩))) (fun _ h_=>h_)));(case aB=>exact (bwA));(case aF=>exact (fun _ _=>trivial));(case aO=>exact (by (with_reducible repeat (first|apply Kd.S_alloc|apply Kd.S_drewN|apply Kd.S_drew));exact Kd.S_mono HO_3.out (fun k_ hk=>⟨trivial,fun e_=>hk e_⟩)));(case aS=>exact (below_size (bwA)));(case aL=>have:=LMc104.out;omega);intro v527 w201 ho hb hg hat;rw [← Ny526.out] at ho;have n0_:=aM (hb);have n1_:=aM (ho);clear HB;clear HO_3;clear HO_4;have HB:=n0_;have HO528:=n1_;clear n0_ n1_;clear ho hb hg hat))
        go_roundg k1
        case measure=>have:=HK1.out;omega
        case rel=>exact ⟨(y526),(([]:List Int)),(wrap64 (x5_1+1)),(endS),H',⟨by have:=HK1.out;omega⟩,⟨by (with_reducible repeat (first|apply Kd.S_alloc|apply Kd.S_drewN|apply Kd.S_drew));exact Kd.S_mono HO528.out (fun _ hk=>(by simp [Value.ownBlock]))⟩,⟨by first|exact Kd.R_nil _ _ _ _ _|exact Kd.N_nil _ _ _ _ _|exact Kd.V_nil _ _ _ _ _|exact Kd.Q_nil _ _ _ _ _|exact Kd.S_nil _ _ _ _ _⟩,⟨bwA⟩⟩
      | clear M2
        have p529:0≤(x5_1:Int):=odA;have q529:x5_1<(l0.length:Int):=odA;obtain ⟨ad529,e529,hx529_0⟩:=Kd.at_int HR0.out x5_1 p529 q529;obtain rfl:ad525=ad529:=(by injection e529);replace hx529_0:=crA hx529_0;replace p529:=eq_true p529;replace q529:=eq_true q529;try go_wp2_with (first|((with_reducible refine gate_builtin (b:=.append) (xs:=#[.tmp 21,.tmp 26]) rfl ?_);at_builtin;refine Kd.R_append (Kd.int .i64) (w0:=w) w.heap.size rfl (.tmp 21) (.tmp 26) 120 3 (.int .i64 0) 8 rfl Tryz.underlying120 info3 rfl (by decide) (by omega) u4 x4_1 (rd l0 x5_1) [.int .i64 (rd l0 x5_1)] (fun _=>True) (fun _=>False) rfl rfl ?aP (fun _ hk=>hk.elim) ?aF ?aO ?aB ?aS ?aL ?_;(case aP=>exact rfl);(case aB=>exact (bwA));(case aF=>exact (fun _ _=>trivial));(case aO=>exact (raA HO_4.out));(case aS=>exact (below_size (bwA)));(case aL=>have:=LMc104.out;omega);intro v531 w201 ho hb hg hat;rw [← Ny530.out] at ho;have n0_:=aM (Kd.S_after (ok:=(fun _=>True)) (by (with_reducible repeat (first|apply Kd.S_alloc|apply Kd.S_drewN|apply Kd.S_drew));exact Kd.S_mono HO_3.out (fun _ hk=>⟨trivial,hk⟩)) hg hat);have n1_:=aM (hb);have n2_:=aM (ho);clear HO_3;clear HB;clear HO_4;have HO_3:=n0_;have HB:=n1_;have HO532:=n2_;clear n0_ n1_ n2_;clear ho hb hg hat))
        go_roundg k1
        case measure=>have:=HK1.out;omega
        case rel=>exact ⟨(x3_1),(y530),(wrap64 (x5_1+1)),(endS),H',⟨by have:=HK1.out;omega⟩,⟨by (with_reducible repeat (first|apply Kd.S_alloc|apply Kd.S_drewN|apply Kd.S_drew));exact Kd.S_mono HO_3.out (fun _ hk=>hk.2)⟩,⟨raA HO532.out⟩,⟨bwA⟩⟩
end Go.Proofs.YtpjjbaclphoilaaGreatDoor.A
