import Derived.Test.YtpjjbaclphoilaaGreatDoorAx0
import Derived.Test.YtpjjbaclphoilaaGreatDoorAx15
import Derived.Test.YtpjjbaclphoilaaGreatDoorAx16
namespace Go.Proofs.YtpjjbaclphoilaaGreatDoor.A
open Go.RowKit Go.Proofs.YtpjjbaclphoilaaGreatDoorW.PrintWords Go.Proofs.YtpjjbaclphoilaaGreatDoorW.PrintLast Go.Proofs.YtpjjbaclphoilaaGreatDoorW.PrintMore
attribute [local go_sem] max2_int min2_int max_two min_two max_three min_three max_four min_four   -- for this text's walks alone
set_option linter.unusedVariables false
set_option linter.unusedSimpArgs false
set_option maxHeartbeats 8000000
set_option maxRecDepth 100000
mutual
def R02_Letter.j0:Nat→Int→Bool→Option (Bool)
 | 0,_,_=>none
 | k+1,x0,x16=>if x16=true then (some true) else (if x0≥192 then (R02_Letter.j1 k x0 (decide (x0≤591))) else (R02_Letter.j1 k x0 false))
def R02_Letter.j1:Nat→Int→Bool→Option (Bool)
 | 0,_,_=>none
 | k+1,x0,x22=>if x22=true then (if x0=215 then (some false) else (some (x0 != 247))) else (if x0≥913 then (if x0≤937 then (some (x0 != 930)) else (if x0≥945 then (if x0≤969 then (some true) else (if x0≥1040 then (if x0≤1103 then (some true) else (if x0≥19968 then (some (decide (x0≤40959))) else (some false))) else (if x0≥19968 then (some (decide (x0≤40959))) else (some false)))) else (if x0≥1040 then (if x0≤1103 then (some true) else (if x0≥19968 then (some (decide (x0≤40959))) else (some false))) else (if x0≥19968 then (some (decide (x0≤40959))) else (some false))))) else (if x0≥945 then (if x0≤969 then (some true) else (if x0≥1040 then (if x0≤1103 then (some true) else (if x0≥19968 then (some (decide (x0≤40959))) else (some false))) else (if x0≥19968 then (some (decide (x0≤40959))) else (some false)))) else (if x0≥1040 then (if x0≤1103 then (some true) else (if x0≥19968 then (some (decide (x0≤40959))) else (some false))) else (if x0≥19968 then (some (decide (x0≤40959))) else (some false)))))
end
def R02_Letter.f (k:Nat) (a0:Int):Option (Bool):=if a0≥65 then (if a0≤90 then (R02_Letter.j0 k a0 true) else (if a0≥97 then (R02_Letter.j0 k a0 (decide (a0≤122))) else (R02_Letter.j0 k a0 false))) else (if a0≥97 then (R02_Letter.j0 k a0 (decide (a0≤122))) else (R02_Letter.j0 k a0 false))
theorem R02_Letter.calls (k:Nat) (a0:Int) (r:Bool) (w:World) (h:R02_Letter.f k a0=some r):
  Calls Tryz.prog 132 #[.int .i64 a0] w fun e w'=>e=.returned (.bool r)∧Drawn0 w w':=by
 unfold R02_Letter.f at h;have H:=h;clear h;have HC101:=aM H;clear H;go_enter Tryz.func132,Tryz.ntmps132;go_upto_region 1 with (fail);go_cut [16] (fun v16 wc=>∃ (kq:Nat) (x16_100:Bool),v16=.bool x16_100∧Aside0 (R02_Letter.j0 kq a0 x16_100=some r)∧Aside0 (kq≤k)∧Drawn0 w wc)
 case first=>
  have H:=HC101.out;clear HC101;revert H;refine itR ?L4p ?L4n
  case' L4p=>
   intro c102 H;have c102b0:=geT c102;clear c102
   (first|rw [c102b0]|(simp only [i64_w,i32_w];rw [c102b0])|skip)
   revert H;refine itR ?L5p ?L5n
   case' L5p=>
    intro c103 H;have c103b0:=dT c103;clear c103;have H':=aM H;clear H;have M1:=trivial
   case' L5n=>
    intro c103 H;have c103b0:=dF c103;clear c103;revert H;refine itR ?L6p ?L6n
    case' L6p=>
     intro c104 H;have c104b0:=geT c104;clear c104;have H':=aM H;clear H;have M2:=trivial
    case' L6n=>
     intro c104 H;have c104b0:=geF c104;clear c104;have H':=aM H;clear H;have M3:=trivial
  case' L4n=>
   intro c102 H;have c102b0:=geF c102;clear c102
   (first|rw [c102b0]|(simp only [i64_w,i32_w];rw [c102b0])|skip)
   revert H;refine itR ?L7p ?L7n
   case' L7p=>
    intro c103 H;have c103b0:=geT c103;clear c103;have H':=aM H;clear H;have M2:=trivial
   case' L7n=>
    intro c103 H;have c103b0:=geF c103;clear c103;have H':=aM H;clear H;have M3:=trivial
  all_goals
   case _=>
    go_wp2
    go_meet
    first
     | clear M1
       case rel=>exact ⟨_,(true),(endS),H',⟨by first|omega|exact Nat.le_refl _⟩,drA⟩
     | clear M2
       case rel=>exact ⟨_,(decide (a0≤122)),(endS),H',⟨by first|omega|exact Nat.le_refl _⟩,drA⟩
     | clear M3
       case rel=>exact ⟨_,(false),(endS),H',⟨by first|omega|exact Nat.le_refl _⟩,drA⟩
 case rest=>
  clear HC101;(try clear c1);(try clear p2);(try clear c10);(try clear c13);obtain ⟨kq,x16_100,rfl,HA,HJ100,⟨mc100,rfl⟩⟩:=hcut
  cases kq with
  | zero=>exact absurd HA.out (by simp [R02_Letter.j0])
  | succ kj100=>
   have H:=HA.out;clear HA;simp only [R02_Letter.j0] at H;revert H;refine itR ?L35p ?L35n
   case' L35p=>
    intro c102 H;subst c102;obtain rfl:=sI H;go_wp2;go_ret;exact ⟨endS,drA⟩
   case' L35n=>
    intro c102 H;replace c102:=Bool.eq_false_iff.mpr c102;subst c102;have HC201:=aM H;clear H;go_upto_region 3 with (fail);go_cut [22] (fun v22 wc=>∃ (kq:Nat) (x22_200:Bool),v22=.bool x22_200∧Aside0 (R02_Letter.j1 kq a0 x22_200=some r)∧Aside0 (kq≤kj100)∧Drawn0 w wc)
    case first=>
     have H:=HC201.out;clear HC201;revert H;refine itR ?L38p ?L38n
     case' L38p=>
      intro c202 H;have c202b0:=geT c202;clear c202
      (first|rw [c202b0]|(simp only [i64_w,i32_w];rw [c202b0])|skip)
      have H':=aM H;clear H;have M36:=trivial
     case' L38n=>
      intro c202 H;have c202b0:=geF c202;clear c202
      (first|rw [c202b0]|(simp only [i64_w,i32_w];rw [c202b0])|skip)
      have H':=aM H;clear H;have M37:=trivial
     all_goals
      case _=>
       go_wp2
       go_meet
       first
        | clear M36
          case rel=>exact ⟨_,(decide (a0≤591)),(endS),H',⟨by have:=HJ100.out;first|omega|exact Nat.le_refl _⟩,drA⟩
        | clear M37
          case rel=>exact ⟨_,(false),(endS),H',⟨by have:=HJ100.out;first|omega|exact Nat.le_refl _⟩,drA⟩
    case rest=>
     clear HC201;(try clear c1);(try clear c2);(try clear p2);(try clear c10);(try clear c13);(try clear c20);(try clear c100);(try clear c102);(try clear c102b0);(try clear c103);(try clear c103b0);(try clear c104);(try clear c104b0);(try clear c132);(try clear p2);obtain ⟨kq,x22_200,rfl,HA,HJ200,⟨mc200,rfl⟩⟩:=hcut
     cases kq with
     | zero=>exact absurd HA.out (by simp [R02_Letter.j1])
     | succ kj200=>
      have H:=HA.out;clear HA;simp only [R02_Letter.j1] at H;revert H;refine itR ?L39p ?L39n
      case' L39p=>
       intro c202 H;subst c202;revert H;refine itQ ?L40p ?L40n
       case' L40p=>
        rintro ⟨c203b0,c203b1⟩ H;obtain rfl:=sI H
       case' L40n=>
        rintro ⟨c203b0,c203b1⟩ c203 H;obtain rfl:=sI H
      case' L39n=>
       intro c202 H;replace c202:=Bool.eq_false_iff.mpr c202;subst c202;revert H;refine itR ?L41p ?L41n
       case' L41p=>
        intro c203 H;have c203b0:=geT c203;clear c203;revert H;refine itR ?L42p ?L42n
        case' L42p=>
         intro c204 H;have c204b0:=dT c204;clear c204;obtain rfl:=sI H
        case' L42n=>
         intro c204 H;have c204b0:=dF c204;clear c204;revert H;refine itR ?L43p ?L43n
         case' L43p=>
          intro c205 H;have c205b0:=geT c205;clear c205;revert H;refine itR ?L44p ?L44n
          case' L44p=>
           intro c206 H;have c206b0:=dT c206;clear c206;obtain rfl:=sI H
          case' L44n=>
           intro c206 H;have c206b0:=dF c206;clear c206;revert H;refine itR ?L45p ?L45n
           case' L45p=>
            intro c207 H;have c207b0:=geT c207;clear c207;revert H;refine itR ?L46p ?L46n
            case' L46p=>
             intro c208 H;have c208b0:=dT c208;clear c208;obtain rfl:=sI H
            case' L46n=>
             intro c208 H;have c208b0:=dF c208;clear c208;revert H;refine itR ?L47p ?L47n
             case' L47p=>
              intro c209 H;have c209b0:=geT c209;clear c209;obtain rfl:=sI H
             case' L47n=>
              intro c209 H;have c209b0:=geF c209;clear c209;obtain rfl:=sI H
           case' L45n=>
            intro c207 H;have c207b0:=geF c207;clear c207;revert H;refine itR ?L48p ?L48n
            case' L48p=>
             intro c208 H;have c208b0:=geT c208;clear c208;obtain rfl:=sI H
            case' L48n=>
             intro c208 H;have c208b0:=geF c208;clear c208;obtain rfl:=sI H
         case' L43n=>
          intro c205 H;have c205b0:=geF c205;clear c205;revert H;refine itR ?L49p ?L49n
          case' L49p=>
           intro c206 H;have c206b0:=geT c206;clear c206;revert H;refine itR ?L50p ?L50n
           case' L50p=>
            intro c207 H;have c207b0:=dT c207;clear c207;obtain rfl:=sI H
           case' L50n=>
            intro c207 H;have c207b0:=dF c207;clear c207;revert H;refine itR ?L51p ?L51n
            case' L51p=>
             intro c208 H;have c208b0:=geT c208;clear c208;obtain rfl:=sI H
            case' L51n=>
             intro c208 H;have c208b0:=geF c208;clear c208;obtain rfl:=sI H
          case' L49n=>
           intro c206 H;have c206b0:=geF c206;clear c206;revert H;refine itR ?L52p ?L52n
           case' L52p=>
            intro c207 H;have c207b0:=geT c207;clear c207;obtain rfl:=sI H
           case' L52n=>
            intro c207 H;have c207b0:=geF c207;clear c207;obtain rfl:=sI H
       case' L41n=>
        intro c203 H;have c203b0:=geF c203;clear c203;revert H;refine itR ?L53p ?L53n
        case' L53p=>
         intro c204 H;have c204b0:=geT c204;clear c204;revert H;refine itR ?L54p ?L54n
         case' L54p=>
          intro c205 H;have c205b0:=dT c205;clear c205;obtain rfl:=sI H
         case' L54n=>
          intro c205 H;have c205b0:=dF c205;clear c205;revert H;refine itR ?L55p ?L55n
          case' L55p=>
           intro c206 H;have c206b0:=geT c206;clear c206;revert H;refine itR ?L56p ?L56n
           case' L56p=>
            intro c207 H;have c207b0:=dT c207;clear c207;obtain rfl:=sI H
           case' L56n=>
            intro c207 H;have c207b0:=dF c207;clear c207;revert H;refine itR ?L57p ?L57n
            case' L57p=>
             intro c208 H;have c208b0:=geT c208;clear c208;obtain rfl:=sI H
            case' L57n=>
             intro c208 H;have c208b0:=geF c208;clear c208;obtain rfl:=sI H
          case' L55n=>
           intro c206 H;have c206b0:=geF c206;clear c206;revert H;refine itR ?L58p ?L58n
           case' L58p=>
            intro c207 H;have c207b0:=geT c207;clear c207;obtain rfl:=sI H
           case' L58n=>
            intro c207 H;have c207b0:=geF c207;clear c207;obtain rfl:=sI H
        case' L53n=>
         intro c204 H;have c204b0:=geF c204;clear c204;revert H;refine itR ?L59p ?L59n
         case' L59p=>
          intro c205 H;have c205b0:=geT c205;clear c205;revert H;refine itR ?L60p ?L60n
          case' L60p=>
           intro c206 H;have c206b0:=dT c206;clear c206;obtain rfl:=sI H
          case' L60n=>
           intro c206 H;have c206b0:=dF c206;clear c206;revert H;refine itR ?L61p ?L61n
           case' L61p=>
            intro c207 H;have c207b0:=geT c207;clear c207;obtain rfl:=sI H
           case' L61n=>
            intro c207 H;have c207b0:=geF c207;clear c207;obtain rfl:=sI H
         case' L59n=>
          intro c205 H;have c205b0:=geF c205;clear c205;revert H;refine itR ?L62p ?L62n
          case' L62p=>
           intro c206 H;have c206b0:=geT c206;clear c206;obtain rfl:=sI H
          case' L62n=>
           intro c206 H;have c206b0:=geF c206;clear c206;obtain rfl:=sI H
      all_goals
       case _=>
        go_wp2;go_ret;exact ⟨endS,drA⟩
def R02_part.l0:Nat→List Int→Int→Option (Bool)
 | 0,_,_=>none
 | k+1,x0,x3=>if x3<(x0.length:Int) then (if 0≤x3 then ((R02_Letter.f k (rd x0 x3)).bind fun t537=>(if t537=true then (R02_part.l0 k x0 (wrap64 (x3+1))) else (if (rd x0 x3)=95 then (R02_part.l0 k x0 (wrap64 (x3+1))) else (if x3=0 then (some false) else (if (rd x0 x3)=45 then (R02_part.l0 k x0 (wrap64 (x3+1))) else (if (rd x0 x3)<48 then (some false) else (if (rd x0 x3)>57 then (some false) else (R02_part.l0 k x0 (wrap64 (x3+1)))))))))) else (none)) else (some (decide ((x0.length:Int)>0)))
def R02_part.f (k:Nat) (l0:List Int):Option (Bool):=R02_part.l0 k l0 0
theorem R02_part.calls (k:Nat) (A0:Option Addr) (c0:Nat) (l0:List Int) (r:Bool) (w:World) (hr0:Kd.C (Kd.int .i64) w A0 l0.length l0) (hc0:l0.length≤c0) (h:R02_part.f k l0=some r):
  Calls Tryz.prog 92 #[.slice A0 l0.length c0] w fun e w'=>e=.returned (.bool r)∧Drawn0 w w':=by
 have HR0:=aM hr0;have HC0:=aM hc0;clear hr0 hc0;unfold R02_part.f at h;have H:=h;clear h;have H':=aM H;clear H;go_enter Tryz.func92,Tryz.ntmps92;go_wp2
 go_loopg [3] k (fun kq v3 w'=>∃ (x3_1:Int),v3=.int .i64 x3_1∧Aside0 (R02_part.l0 kq l0 x3_1=some r)∧Aside0 (kq≤k)∧Drawn0 w w')
 case atStart=>exact ⟨(0),(endS),H',⟨Nat.le_refl _⟩,drA⟩
 case round=>
  clear H';(try clear p2);(try clear c9);(try clear c92);obtain ⟨x3_1,rfl,HA,HK1,⟨m1,rfl⟩⟩:=hrel
  cases gk with
  | zero=>exact absurd HA.out (by simp [R02_part.l0])
  | succ k1=>
   have H:=HA.out;clear HA;simp only [R02_part.l0] at H;revert H;refine itR ?L3p ?L3n
   case' L3p=>
    intro c101 H;have c101b0:=dT c101;clear c101;replace H:=itN H;obtain ⟨c102,H⟩:=H;have c102b0:=dT c102;clear c102;replace H:=bnA H;obtain ⟨t537,A103,H⟩:=H;revert H;refine itR ?L4p ?L4n
    case' L4p=>
     intro c104 H;subst c104;have H':=aM H;clear H;have M1:=trivial
    case' L4n=>
     intro c104 H;replace c104:=Bool.eq_false_iff.mpr c104;subst c104;revert H;refine itQ ?L5p ?L5n
     case' L5p=>
      rintro ⟨c105b0,c105b1⟩ H;have H':=aM H;clear H;have M1:=trivial
     case' L5n=>
      rintro ⟨c105b0,c105b1⟩ c105 H;revert H;refine itQ ?L6p ?L6n
      case' L6p=>
       rintro ⟨c106b0,c106b1⟩ H;obtain rfl:=sI H;have M2:=trivial
      case' L6n=>
       rintro ⟨c106b0,c106b1⟩ c106 H;revert H;refine itQ ?L7p ?L7n
       case' L7p=>
        rintro ⟨c107b0,c107b1⟩ H;have H':=aM H;clear H;have M1:=trivial
       case' L7n=>
        rintro ⟨c107b0,c107b1⟩ c107 H;revert H;refine itR ?L8p ?L8n
        case' L8p=>
         intro c108 H;have c108b0:=dT c108;clear c108;obtain rfl:=sI H;have M2:=trivial
        case' L8n=>
         intro c108 H;have c108b0:=dF c108;clear c108;revert H;refine itR ?L9p ?L9n
         case' L9p=>
          intro c109 H;have c109b0:=gtT c109;clear c109;obtain rfl:=sI H;have M2:=trivial
         case' L9n=>
          intro c109 H;have c109b0:=gtF c109;clear c109;have H':=aM H;clear H;have M1:=trivial
   case' L3n=>
    intro c101 H;have c101b0:=dF c101;clear c101;obtain rfl:=sI H;go_wp2;go_ret;exact ⟨endS,drA⟩
   all_goals
    case _=>
     have p536:0≤(x3_1:Int):=odA;have q536:x3_1<(l0.length:Int):=odA;obtain ⟨ad536,e536,hx536_0⟩:=Kd.at_int HR0.out x3_1 p536 q536
     cases e536
     replace p536:=eq_true p536;replace q536:=eq_true q536;try go_wp2_with (first|((with_reducible refine gate_callee (f:=132) rfl ?_);refine goesA (some 16) Tryz.func132 #[.int .i64 (rd l0 x3_1)] ?_;(with_reducible refine (R02_Letter.calls _ _ _ _ A103.out).mono ?_);rintro e w' ⟨rfl,⟨nd,rfl⟩⟩;refine ⟨_,rfl,?_⟩))
     first
      | clear M1
        go_roundg k1
        case measure=>have:=HK1.out;omega
        case rel=>exact ⟨(wrap64 (x3_1+1)),(endS),H',⟨by have:=HK1.out;omega⟩,drA⟩
      | clear M2
        go_ret;exact ⟨endS,drA⟩
mutual
def R02_Check.j0:Nat→ByteArray→Bool→Option (Int)
 | 0,_,_=>none
 | k+1,x0,x12=>if x12=true then (some 3) else ((R02_Runes.f k x0).bind fun t539=>((R02_Split.f k t539).bind fun t542=>(R02_Check.l0 k t539 t542 0)))
def R02_Check.l0:Nat→List Int→List (List Int)→Int→Option (Int)
 | 0,_,_,_=>none
 | k+1,x3,x4,x5=>if x5<(x4.length:Int) then (if 0≤x5 then ((R02_part.f k (rd_L19 x4 x5)).bind fun t546=>(if t546=true then (R02_Check.l0 k x3 x4 (wrap64 (x5+1))) else (some 3))) else (none)) else (if (x3.length:Int)>40 then (some 2) else (if (x4.length:Int)>5 then (some 2) else (some 0)))
end
def R02_Check.f (k:Nat) (a0:ByteArray):Option (Int):=if a0.toList=([]:List UInt8) then (R02_Check.j0 k a0 true) else ((R02_Valid.f k a0).bind fun t538=>(R02_Check.j0 k a0 (!t538)))
theorem R02_Check.calls (k:Nat) (a0:ByteArray) (r:Int) (w:World) (h:R02_Check.f k a0=some r):
  Calls Tryz.prog 43 #[.string a0] w fun e w'=>e=.returned (.int .i64 r)∧Below w.heap.size w w':=by
 have HB:=aM (Below.refl w.heap.size w);unfold R02_Check.f at h;have H:=h;clear h;have HC101:=aM H;clear H;go_enter Tryz.func43,Tryz.ntmps43;go_upto_region 1 with (fail);go_cut [12] (fun v12 wc=>∃ (kq:Nat) (x12_100:Bool),v12=.bool x12_100∧Aside0 (R02_Check.j0 kq a0 x12_100=some r)∧Aside0 (kq≤k)∧Aside0 (Below w.heap.size w wc))
 case first=>
  have H:=HC101.out;clear HC101;revert H;refine itQ ?L1p ?L1n
  case' L1p=>
   rintro ⟨c102b0,c102b1⟩ H
   (first|rw [c102b0]|(simp only [i64_w,i32_w];rw [c102b0])|skip)
   have H':=aM H;clear H;go_wp2
   go_meet
   case rel=>exact ⟨_,(true),(endS),H',⟨by first|omega|exact Nat.le_refl _⟩,⟨bwA⟩⟩
  case' L1n=>
   rintro ⟨c102b0,c102b1⟩ c102 H
   (first|rw [c102b0]|(simp only [i64_w,i32_w];rw [c102b0])|skip)
   replace H:=bnA H;obtain ⟨t538,A103,H⟩:=H;have H':=aM H;clear H;try go_wp2_with (first|(go_at_call 89;(with_reducible refine (R02_Valid.calls _ _ _ _ A103.out).mono ?_);rintro e w201 ⟨rfl,hb⟩;replace HB:=aM (below_step (bwA) hb);(try clear hb)))
   go_meet
   case rel=>exact ⟨_,(!t538),(endS),H',⟨by first|omega|exact Nat.le_refl _⟩,⟨bwA⟩⟩
 case rest=>
  clear HC101;(try clear c1);(try clear p2);(try clear c4);(try clear c10);(try clear c43);obtain ⟨kq,x12_100,rfl,HA,HJ100,HB⟩:=hcut
  cases kq with
  | zero=>exact absurd HA.out (by simp [R02_Check.j0])
  | succ kj100=>
   have H:=HA.out;clear HA;simp only [R02_Check.j0] at H;revert H;refine itR ?L10p ?L10n
   case' L10p=>
    intro c102 H;subst c102;obtain rfl:=sI H;go_wp2;go_ret;exact ⟨endA,bwA⟩
   case' L10n=>
    intro c102 H;replace c102:=Bool.eq_false_iff.mpr c102;subst c102;replace H:=bnA H;obtain ⟨t539,A103,H⟩:=H;replace H:=bnA H;obtain ⟨t542,A104,H⟩:=H;have H':=aM H;clear H;try go_wp2_with (first|((with_reducible refine gate_callee (f:=90) rfl ?_);refine goesA (some 14) Tryz.func90 #[.string a0] ?_;(with_reducible refine (R02_Runes.calls _ _ _ _ A103.out).mono ?_);rintro e w201 ⟨v540,rfl,ho0,hb⟩;refine ⟨_,rfl,?_⟩;have HO541:=aM (Kd.R_lower ho0 (below_size (bwA)));replace HB:=aM (below_step (bwA) hb);(try clear hb);(try clear ho0);obtain ⟨Ao202,co202,eo202⟩:=Kd.R_slice HO541.out;subst eo202)|((with_reducible refine gate_callee (f:=91) rfl ?_);refine goesA (some 16) Tryz.func91 #[.slice Ao202 t539.length co202] ?_;(with_reducible refine (R02_Split.calls _ _ _ _ _ _ ?side1 ?side2 A104.out).mono ?_);(case side1=>repeat (first|exact (Kd.R_reads' HO541.out).2.2|(with_reducible refine Kd.C_alloc ?_ _)|(with_reducible refine Kd.C_drewN ?_ _)|(with_reducible refine Kd.C_drew ?_)));(case side2=>exact (Kd.R_reads' HO541.out).2.1);rintro e w203 ⟨v543,rfl,ho0,hb⟩;refine ⟨_,rfl,?_⟩;have HO544:=aM (Kd.S_lower (Kd.S_new' ho0 (Kd.R_lt (raA HO541.out))) (below_size (bwA)));replace HO541:=aM (Kd.R_below (raA HO541.out) hb);replace HB:=aM (below_step (bwA) hb);(try clear hb);(try clear ho0)))
    go_loopg [5] kj100 (fun kq v5 w'=>∃ (x5_2:Int),v5=.int .i64 x5_2∧Aside0 (R02_Check.l0 kq t539 t542 x5_2=some r)∧Aside0 (kq≤kj100)∧Aside0 (Kd.R (Kd.int .i64) 3 w' w.heap.size (fun _=>True) (.slice Ao202 t539.length co202) t539)∧Aside0 (Kd.S (Kd.slice 3 (Kd.int .i64)) 120 w' w.heap.size (fun k_=>some k_≠((.slice Ao202 t539.length co202):Value).ownBlock) v543 t542)∧Aside0 (Below w.heap.size w w'))
    case atStart=>exact ⟨(0),(endS),H',⟨Nat.le_refl _⟩,⟨raA HO541.out⟩,⟨by (with_reducible repeat (first|apply Kd.S_alloc|apply Kd.S_drewN|apply Kd.S_drew));exact Kd.S_mono HO544.out (fun _ hk=>hk.2)⟩,⟨bwA⟩⟩
    case round=>
     clear H';(try clear c1);(try clear p2);(try clear c4);(try clear c9);(try clear c10);(try clear c43);(try clear c90);(try clear c91);(try clear c102);(try clear c102b0);(try clear c102b1);(try clear p2);obtain ⟨x5_2,rfl,HA,HK2,HO_3,HO_4,HB⟩:=hrel
     cases gk with
     | zero=>exact absurd HA.out (by simp [R02_Check.l0])
     | succ k2=>
      have H:=HA.out;clear HA;simp only [R02_Check.l0] at H;revert H;refine itR ?L15p ?L15n
      case' L15p=>
       intro c204 H;have c204b0:=dT c204;clear c204;replace H:=itN H;obtain ⟨c205,H⟩:=H;have c205b0:=dT c205;clear c205;replace H:=bnA H;obtain ⟨t546,A206,H⟩:=H;revert H;refine itR ?L16p ?L16n
       case' L16p=>
        intro c207 H;subst c207;have H':=aM H;clear H;have M11:=trivial;have M12:=trivial
       case' L16n=>
        intro c207 H;replace c207:=Bool.eq_false_iff.mpr c207;subst c207;obtain rfl:=sI H;have M11:=trivial;have M13:=trivial
      case' L15n=>
       intro c204 H;have c204b0:=dF c204;clear c204;revert H;refine itR ?L17p ?L17n
       case' L17p=>
        intro c205 H;have c205b0:=gtT c205;have c205b1:decide (40<t539.length)=true:=dT (by omega);clear c205;obtain rfl:=sI H;have M14:=trivial
       case' L17n=>
        intro c205 H;have c205b0:=gtF c205;have c205b1:decide (40<t539.length)=false:=dF (by omega);clear c205;revert H;refine itR ?L18p ?L18n
        case' L18p=>
         intro c206 H;have c206b0:=gtT c206;have c206b1:decide (5<t542.length)=true:=dT (by omega);clear c206;obtain rfl:=sI H;have M14:=trivial
        case' L18n=>
         intro c206 H;have c206b0:=gtF c206;have c206b1:decide (5<t542.length)=false:=dF (by omega);clear c206;obtain rfl:=sI H;have M14:=trivial
      all_goals
       case _=>
        obtain ⟨Ao301,co301,eo301⟩:=Kd.S_slice HO_4.out;subst eo301
        first
         | clear M11
           have p545:0≤(x5_2:Int):=odA;have q545:x5_2<(t542.length:Int):=odA;obtain ⟨ad545,A545_0,c545_0,e545,hx545_0,hl545_0,hi545_0⟩:=at_L19 (Kd.S_reads' HO_4.out).2.2 x5_2 p545 q545
           cases e545
           obtain ⟨ce545,hce545,hMe545,hcc545⟩:=Kd.S_get HO_4.out [] x5_2 p545 (by first|exact q545|exact odA|(have e_:=(Kd.S_reads' HO_4.out).1;omega));obtain ⟨ve545_0,rfl,ge545_0⟩:=hMe545;have hv545_0:=hcc545 0 _ rfl;rw [Nat.add_zero,show ((Kd.slice 3 (Kd.int .i64))).sz=1 from rfl,Nat.mul_one] at hv545_0;replace hv545_0:=sI (hv545_0.symm.trans hx545_0);rw [hv545_0] at ge545_0;have HL545_0:=aM (show Kd.R (Kd.int .i64) 3 _ _ _ _ (rd_L19 t542 x5_2) from ge545_0);clear hv545_0 ge545_0 hcc545 hce545;have HR545_0:=aM hi545_0;have HC545_0:=aM hl545_0;clear hi545_0 hl545_0;replace p545:=eq_true p545;replace q545:=eq_true q545;try go_wp2_with (first|((with_reducible refine gate_callee (f:=92) rfl ?_);refine goesA (some 27) Tryz.func92 #[.slice A545_0 (rd_L19 t542 x5_2).length c545_0] ?_;(with_reducible refine (R02_part.calls _ _ _ _ _ _ ?side1 ?side2 A206.out).mono ?_);(case side1=>repeat (first|exact (by repeat (first|(with_reducible exact HR545_0.out)|(with_reducible refine Kd.C_alloc ?_ _)|(with_reducible refine Kd.C_drewN ?_ _)|(with_reducible refine Kd.C_drew ?_)|exact HR545_0.out))|(with_reducible refine Kd.C_alloc ?_ _)|(with_reducible refine Kd.C_drewN ?_ _)|(with_reducible refine Kd.C_drew ?_)));(case side2=>exact HC545_0.out);rintro e w' ⟨rfl,⟨nd,rfl⟩⟩;refine ⟨_,rfl,?_⟩))
           first
            | clear M12
              go_roundg k2
              case measure=>have:=HJ100.out;have:=HK2.out;omega
              case rel=>exact ⟨(wrap64 (x5_2+1)),(endS),H',⟨by have:=HJ100.out;have:=HK2.out;omega⟩,⟨raA HO_3.out⟩,⟨by (with_reducible repeat (first|apply Kd.S_alloc|apply Kd.S_drewN|apply Kd.S_drew));exact HO_4.out⟩,⟨bwA⟩⟩
            | clear M13
              go_ret;exact ⟨endA,bwA⟩
         | clear M14
           go_wp2;go_ret;exact ⟨endA,bwA⟩
def cmpI:List Int→List Int→Int
 | [],[]=>0
 | [],_ :: _=>-1
 | _ :: _,[]=>1
 | a :: x,b :: y=>if a<b then -1 else if b<a then 1 else cmpI x y
def R02_Compare.f (k:Nat) (a0:ByteArray) (a1:ByteArray):Option Int:=(R02_Fold.f k a0).bind fun x=>(R02_Fold.f k a1).bind fun y=>(R02_Valid.f k x).bind fun u=>(R02_Valid.f k y).bind fun v=>if u=true then (if v=true then (R02_Runes.f k x).bind fun l=>(R02_Runes.f k y).bind fun m=>some (cmpI l m) else none) else none
theorem cmpI_drop (l m:List Int) (i:Nat) (hi:i<l.length) (hm:i<m.length):cmpI (l.drop i) (m.drop i)=if l[i]<m[i] then -1 else if m[i]<l[i] then 1 else cmpI (l.drop (i+1)) (m.drop (i+1)):=by
 rw [List.drop_eq_getElem_cons hi,List.drop_eq_getElem_cons hm,cmpI]
theorem cmpI_end (l m:List Int) (i:Nat) (h1:i≤l.length) (h2:i≤m.length) (h:¬ (i<l.length∧i<m.length)):cmpI (l.drop i) (m.drop i)=if l.length<m.length then -1 else if m.length<l.length then 1 else 0:=by
 by_cases c1:i<l.length
 ·have c2:i=m.length:=by omega
  rw [List.drop_eq_getElem_cons c1,List.drop_of_length_le (show m.length≤i by omega),if_neg (by omega),if_pos (by omega),cmpI]
 ·by_cases c2:i<m.length
  ·rw [List.drop_eq_getElem_cons c2,List.drop_of_length_le (show l.length≤i by omega),if_pos (by omega),cmpI]
  ·rw [List.drop_of_length_le (show l.length≤i by omega),List.drop_of_length_le (show m.length≤i by omega),if_neg (by omega),if_neg (by omega),cmpI]
theorem R02_Compare.calls (k:Nat) (a0:ByteArray) (a1:ByteArray) (r:Int) (w:World) (h:R02_Compare.f k a0 a1=some r):
  Calls Tryz.prog 87 #[.string a0,.string a1] w fun e w'=>e=.returned (.int .i64 r)∧Below w.heap.size w w':=by
 unfold R02_Compare.f at h;obtain ⟨x,hx,h⟩:=Option.bind_eq_some_iff.1 h;obtain ⟨y,hy,h⟩:=Option.bind_eq_some_iff.1 h;obtain ⟨u,hu,h⟩:=Option.bind_eq_some_iff.1 h;obtain ⟨v,hv,h⟩:=Option.bind_eq_some_iff.1 h
 cases u with
 | false=>simp at h
 | true=>
  cases v with
  | false=>simp at h
  | true=>
   rw [if_pos rfl,if_pos rfl] at h;obtain ⟨l,hl,h⟩:=Option.bind_eq_some_iff.1 h;obtain ⟨m,hm,h⟩:=Option.bind_eq_some_iff.1 h;have hr:=sI h;have cX:=fun W=>R02_Fold.calls k a0 x W hx
   have cY:=fun W=>R02_Fold.calls k a1 y W hy
   have cU:=fun W=>R02_Valid.calls k x true W hu
   have cV:=fun W=>R02_Valid.calls k y true W hv
   have cL:=fun W=>R02_Runes.calls k x l W hl
   have cM:=fun W=>R02_Runes.calls k y m W hm
   have HR:=aM hr;clear h hx hy hu hv hl hm hr;go_enter Tryz.func87,Tryz.ntmps87;go_wp2_with (first|(go_at_call_of 114 (Value.string a0);refine (cX _).mono ?_;rintro e w1 ⟨rfl,hb1⟩)|(go_at_call_of 114 (Value.string a1);refine (cY _).mono ?_;rintro e w2 ⟨rfl,hb2⟩;have hB2:=hb1.trans (hb2.mono hb1.size))|(go_at_call_of 89 (Value.string x);refine (cU _).mono ?_;rintro e w3 ⟨rfl,hb3⟩;have hB3:=hB2.trans (hb3.mono hB2.size))|(go_at_call_of 89 (Value.string y);refine (cV _).mono ?_;rintro e w4 ⟨rfl,hb4⟩;have hB4:=hB3.trans (hb4.mono hB3.size))|(go_at_call_of 90 (Value.string x);refine (cL _).mono ?_;rintro e w5 ⟨vl,rfl,hR5,hb5⟩;have hB5:=hB4.trans (hb5.mono hB4.size);obtain ⟨Al,cl,rfl,_,hC5⟩:=Kd.R_reads hR5;clear hR5)|(go_at_call_of 90 (Value.string y);refine (cM _).mono ?_;rintro e w6 ⟨vm,rfl,hR6,hb6⟩;have hB6:=hB5.trans (hb6.mono hB5.size);obtain ⟨Am,cm,rfl,_,hC6⟩:=Kd.R_reads hR6;clear hR6;have hC7:=Kd.C_below hC5 hb6));clear cX cY cU cV cL cM hb1 hb2 hb3 hb4 hb5 hb6 hC5;have hll:l.length≤9223372036854775807:=hC7.2.1;have hml:m.length≤9223372036854775807:=hC6.2.1;have HC6:=aM hC6;have HC7:=aM hC7;clear hC6 hC7
   go_loopg [11] l.length (fun gg v11 wr=>∃ i:Nat,i≤l.length∧i≤m.length∧l.length-i≤gg∧v11=.int .i64 i∧Aside (Below w6.heap.size w6 wr)∧Aside (cmpI (l.drop i) (m.drop i)=r))
   case atStart=>exact ⟨0,Nat.zero_le _,Nat.zero_le _,by omega,rfl,Below.refl _ _,by have:=HR.out;exact this⟩
   case round=>
    obtain ⟨i,hi1,hi2,hg,rfl,BW,A⟩:=hrel;have h6:=BW.out;have hB:Below w.heap.size w wr:=hB6.trans (h6.mono hB6.size);clear BW
    by_cases hl1:i<l.length
    ·have hlz:(i:Int)<(l.length:Int):=by omega
     by_cases hm1:i<m.length
     ·have hmz:(i:Int)<(m.length:Int):=by omega
      obtain ⟨bl,ol,rfl,_,hcl⟩:=Kd.C_addr (Kd.C_below HC7.out h6) (by omega) (by decide);obtain ⟨bm,om,rfl,_,hcm⟩:=Kd.C_addr (Kd.C_below HC6.out h6) (by omega) (by decide)
      have z1:wr.cell? ⟨bl,ol+i,none⟩=some (.int .i64 l[i]):=by
       obtain ⟨cs,c1,c2,c3⟩:=hcl i l[i] (List.getElem?_eq_getElem hl1);have e:cs=[.int .i64 l[i]]:=c2;have:=c3 0 (.int .i64 l[i]) (by rw [e];rfl)
       simpa [Kd.int,Kd.scalar] using this
      have z2:wr.cell? ⟨bm,om+i,none⟩=some (.int .i64 m[i]):=by
       obtain ⟨cs,c1,c2,c3⟩:=hcm i m[i] (List.getElem?_eq_getElem hm1);have e:cs=[.int .i64 m[i]]:=c2;have:=c3 0 (.int .i64 m[i]) (by rw [e];rfl)
       simpa [Kd.int,Kd.scalar] using this
      have hA:=A.out;rw [cmpI_drop l m i hl1 hm1] at hA
      generalize l[i]=p at z1 hA
      generalize m[i]=q at z2 hA
      clear hcl hcm A;have hpos:(0:Int)≤(i:Int):=by omega
      by_cases h1:p<q
      ·rw [if_pos h1] at hA
       subst hA;go_wp2
       go_quiet (fail)
       go_wp2;go_ret;exact ⟨rfl,by repeat (first|exact hB|apply pw_below_drewN)⟩
      ·rw [if_neg h1] at hA
       by_cases h2:q<p
       ·rw [if_pos h2] at hA
        subst hA;go_wp2
        go_quiet (fail)
        go_wp2
        go_quiet (fail)
        go_wp2;go_ret;exact ⟨rfl,by repeat (first|exact hB|apply pw_below_drewN)⟩
       ·rw [if_neg h2] at hA
        have HA:=aM hA;clear hA;go_wp2
        go_quiet (fail)
        go_wp2
        go_quiet (fail)
        go_wp2
        go_roundg (l.length-(i+1))
        case measure=>omega
        case rel=>exact ⟨i+1,by omega,by omega,by omega,by go_num,(by repeat (first|exact h6|apply pw_below_drewN)),HA.out⟩
     ·have hmz:¬ (i:Int)<(m.length:Int):=by omega
      have hA:=A.out;rw [cmpI_end l m i hi1 hi2 (by omega),if_neg (by omega),if_pos (by omega)] at hA;subst hA;have k1:¬ (l.length:Int)<(m.length:Int):=by omega
      have k2:(m.length:Int)<(l.length:Int):=by omega
      clear A;go_wp2;go_ret;exact ⟨rfl,hB⟩
    ·have hlz:¬ (i:Int)<(l.length:Int):=by omega
     have hA:=A.out;rw [cmpI_end l m i hi1 hi2 (by omega)] at hA;clear A
     by_cases c1:l.length<m.length
     ·rw [if_pos c1] at hA
      subst hA;have k1:(l.length:Int)<(m.length:Int):=by omega
      go_wp2;go_ret;exact ⟨rfl,hB⟩
     ·rw [if_neg c1,if_neg (by omega)] at hA
      subst hA;have k1:¬ (l.length:Int)<(m.length:Int):=by omega
      have k2:¬ (m.length:Int)<(l.length:Int):=by omega
      go_wp2;go_ret;exact ⟨rfl,hB⟩
mutual
def R02_Parts.l0:Nat→List (List Int)→List ByteArray→Int→Option (List ByteArray)
 | 0,_,_,_=>none
 | k+1,x3,x4,x5=>if x5<(x3.length:Int) then (R02_Parts.l1 k x3 x4 x5 (⟨#[]⟩:ByteArray) 0) else (some x4)
def R02_Parts.l1:Nat→List (List Int)→List ByteArray→Int→ByteArray→Int→Option (List ByteArray)
 | 0,_,_,_,_,_=>none
 | k+1,x3,x4,x5,x6,x7=>if 0≤x5 then (if x5<(x3.length:Int) then (if x7<((rd_L19 x3 x5).length:Int) then (if 0≤x7 then ((R02_Bytes.f (rd (rd_L19 x3 x5) x7)).bind fun t557=>(if x6.size+t557.size≤9223372036854775807 then (R02_Parts.l1 k x3 x4 x5 (x6++t557) (wrap64 (x7+1))) else (none))) else (none)) else (if x4.length<8796093022208 then (R02_Parts.l0 k x3 (x4++[x6]) (wrap64 (x5+1))) else (none))) else (none)) else (none)
end
def R02_Parts.f (k:Nat) (a0:ByteArray):Option (List ByteArray):=(R02_Check.f k a0).bind fun t547=>(if t547=0 then ((R02_Runes.f k a0).bind fun t548=>((R02_Split.f k t548).bind fun t551=>(R02_Parts.l0 k t551 ([]:List ByteArray) 0))) else (some ([]:List ByteArray)))
theorem R02_Parts.calls (k:Nat) (a0:ByteArray) (r:List ByteArray) (w:World) (h:R02_Parts.f k a0=some r):
  Calls Tryz.prog 166 #[.string a0] w fun e w'=>∃ v0_:Value,e=.returned (v0_)∧Kd.R Kd.string 9 w' w.heap.size (fun _=>True) v0_ r∧Below w.heap.size w w':=by
 have HB:=aM (Below.refl w.heap.size w);unfold R02_Parts.f at h;have H:=h;clear h;replace H:=bnA H;obtain ⟨t547,A2,H⟩:=H;revert H;refine itQ ?L9p ?L9n
 case' L9p=>
  rintro ⟨c3b0,c3b1⟩ H;replace H:=bnA H;obtain ⟨t548,A4,H⟩:=H;replace H:=bnA H;obtain ⟨t551,A5,H⟩:=H;have H':=aM H;clear H;have M7:=trivial
 case' L9n=>
  rintro ⟨c3b0,c3b1⟩ c3 H;obtain rfl:=sI H;have M8:=trivial
 all_goals
  case _=>
   go_enter Tryz.func166,Tryz.ntmps166;go_wp2_with (first|((with_reducible refine gate_callee (f:=43) rfl ?_);refine goesA (some 9) Tryz.func43 #[.string a0] ?_;(with_reducible refine (R02_Check.calls _ _ _ _ A2.out).mono ?_);rintro e w101 ⟨rfl,hb⟩;refine ⟨_,rfl,?_⟩;replace HB:=aM (below_step (bwA) hb);(try clear hb);apply stopA;(case other=>exact trivial)))
   case _=>
    first
     | clear M7
       try go_wp2_with (first|((with_reducible refine gate_callee (f:=90) rfl ?_);refine goesA (some 12) Tryz.func90 #[.string a0] ?_;(with_reducible refine (R02_Runes.calls _ _ _ _ A4.out).mono ?_);rintro e w102 ⟨v549,rfl,ho0,hb⟩;refine ⟨_,rfl,?_⟩;have HO550:=aM (Kd.R_lower ho0 (below_size (bwA)));replace HB:=aM (below_step (bwA) hb);(try clear hb);(try clear ho0);obtain ⟨Ao103,co103,eo103⟩:=Kd.R_slice HO550.out;subst eo103)|((with_reducible refine gate_callee (f:=91) rfl ?_);refine goesA (some 13) Tryz.func91 #[.slice Ao103 t548.length co103] ?_;(with_reducible refine (R02_Split.calls _ _ _ _ _ _ ?side1 ?side2 A5.out).mono ?_);(case side1=>repeat (first|exact (Kd.R_reads' HO550.out).2.2|(with_reducible refine Kd.C_alloc ?_ _)|(with_reducible refine Kd.C_drewN ?_ _)|(with_reducible refine Kd.C_drew ?_)));(case side2=>exact (Kd.R_reads' HO550.out).2.1);rintro e w104 ⟨v552,rfl,ho0,hb⟩;refine ⟨_,rfl,?_⟩;have HO553:=aM (Kd.S_lower (Kd.S_new' ho0 (Kd.R_lt (raA HO550.out))) (below_size (bwA)));replace HO550:=aM (Kd.R_below (raA HO550.out) hb);replace HB:=aM (below_step (bwA) hb);(try clear hb);(try clear ho0)))
       go_loopg [4,5] k (fun kq v4 v5 w'=>∃ (x4_1:List ByteArray) (x5_1:Int),v5=.int .i64 x5_1∧Aside0 (R02_Parts.l0 kq t551 x4_1 x5_1=some r)∧Aside0 (kq≤k)∧Aside0 (Kd.S (Kd.slice 3 (Kd.int .i64)) 120 w' w.heap.size (fun _=>True) v552 t551)∧Aside0 (Kd.R Kd.string 9 w' w.heap.size (fun _=>True) v4 x4_1)∧Aside0 (Below w.heap.size w w'))
       case atStart=>exact ⟨(([]:List ByteArray)),(0),(endS),H',⟨Nat.le_refl _⟩,⟨by (with_reducible repeat (first|apply Kd.S_alloc|apply Kd.S_drewN|apply Kd.S_drew));exact Kd.S_mono HO553.out (fun _ hk=>trivial)⟩,⟨by first|exact Kd.R_nil _ _ _ _ _|exact Kd.N_nil _ _ _ _ _|exact Kd.V_nil _ _ _ _ _|exact Kd.Q_nil _ _ _ _ _|exact Kd.S_nil _ _ _ _ _⟩,⟨bwA⟩⟩
       case round=>
        clear H';(try clear c1);(try clear p2);(try clear c3);(try clear c3b0);(try clear c3b1);(try clear c4);(try clear c9);(try clear c16);(try clear c43);(try clear c90);(try clear c91);obtain ⟨x4_1,x5_1,rfl,HA,HK1,HO_3,HO_4,HB⟩:=hrel
        cases gk with
        | zero=>exact absurd HA.out (by simp [R02_Parts.l0])
        | succ k1=>
         have H:=HA.out;clear HA;simp only [R02_Parts.l0] at H;revert H;refine itR ?L6p ?L6n
         case' L6p=>
          intro c105 H;have c105b0:=dT c105;clear c105;have H':=aM H;clear H;have M4:=trivial
         case' L6n=>
          intro c105 H;have c105b0:=dF c105;clear c105;obtain rfl:=sI H;have M5:=trivial
         all_goals
          case _=>
           obtain ⟨Ao201,co201,eo201⟩:=Kd.S_slice HO_3.out;subst eo201;go_wp2
           first
            | clear M4
              go_loopg [6,7] k1 (fun kq v6 v7 w'=>∃ (x6_2:ByteArray) (x7_2:Int),v6=.string x6_2∧v7=.int .i64 x7_2∧Aside0 (R02_Parts.l1 kq t551 x4_1 x5_1 x6_2 x7_2=some r)∧Aside0 (kq≤k1)∧Aside0 (Kd.S (Kd.slice 3 (Kd.int .i64)) 120 w' w.heap.size (fun _=>True) (.slice Ao201 t551.length co201) t551)∧Aside0 (Kd.R Kd.string 9 w' w.heap.size (fun _=>True) u4 x4_1)∧Aside0 (Below w.heap.size w w'))
              case atStart=>exact ⟨((⟨#[]⟩:ByteArray)),(0),(endS),(endS),H',⟨Nat.le_refl _⟩,⟨by (with_reducible repeat (first|apply Kd.S_alloc|apply Kd.S_drewN|apply Kd.S_drew));exact HO_3.out⟩,⟨raA HO_4.out⟩,⟨bwA⟩⟩
              case round=>
               clear H';(try clear c1);(try clear p2);(try clear c3);(try clear c3b0);(try clear c3b1);(try clear c4);(try clear c9);(try clear c10);(try clear c16);(try clear c43);(try clear c90);(try clear c91);(try clear c105);(try clear c105b0);(try clear c166);(try clear p2);obtain ⟨x6_2,x7_2,rfl,rfl,HA,HK2,HO_3,HO_4,HB⟩:=hrel
               cases gk with
               | zero=>exact absurd HA.out (by simp [R02_Parts.l1])
               | succ k2=>
                have H:=HA.out;clear HA;simp only [R02_Parts.l1] at H;replace H:=itN H;obtain ⟨c202,H⟩:=H;have c202b0:=dT c202;clear c202;replace H:=itN H;obtain ⟨c203,H⟩:=H;have c203b0:=dT c203;clear c203;revert H;refine itR ?L3p ?L3n
                case' L3p=>
                 intro c204 H;have c204b0:=dT c204;clear c204;replace H:=itN H;obtain ⟨c205,H⟩:=H;have c205b0:=dT c205;clear c205;replace H:=bnA H;obtain ⟨t557,A206,H⟩:=H;replace H:=itN H;obtain ⟨c207,H⟩:=H;have c207b0:=eq_true c207;have c207b1:=dT c207;(try have c207b2:(9223372036854775807<x6_2.size+t557.size)=False:=eq_false (Nat.not_lt.2 c207));have H':=aM H;clear H;have M1:=trivial
                case' L3n=>
                 intro c204 H;have c204b0:=dF c204;clear c204;replace H:=itN H;obtain ⟨c205,H⟩:=H;have LMc205:=aM c205;clear c205
                 first|((with_reducible replace H:=bsG H);obtain ⟨y558,Ny558,H⟩:=H)|(obtain ⟨y558,hy558⟩:∃ y_:List ByteArray,y_=(x4_1++[x6_2]):=⟨_,rfl⟩;rw [← hy558] at H;have Ny558:=aM hy558;clear hy558)
                 have H':=aM H;clear H;have M2:=trivial
                all_goals
                 case _=>
                  have p554:0≤(x5_1:Int):=odA;have q554:x5_1<(t551.length:Int):=odA;obtain ⟨ad554,A554_0,c554_0,e554,hx554_0,hl554_0,hi554_0⟩:=at_L19 (Kd.S_reads' HO_3.out).2.2 x5_1 p554 q554
                  cases e554
                  obtain ⟨ce554,hce554,hMe554,hcc554⟩:=Kd.S_get HO_3.out [] x5_1 p554 (by first|exact q554|exact odA|(have e_:=(Kd.S_reads' HO_3.out).1;omega));obtain ⟨ve554_0,rfl,ge554_0⟩:=hMe554;have hv554_0:=hcc554 0 _ rfl;rw [Nat.add_zero,show ((Kd.slice 3 (Kd.int .i64))).sz=1 from rfl,Nat.mul_one] at hv554_0;replace hv554_0:=sI (hv554_0.symm.trans hx554_0);rw [hv554_0] at ge554_0;have HL554_0:=aM (show Kd.R (Kd.int .i64) 3 _ _ _ _ (rd_L19 t551 x5_1) from ge554_0);clear hv554_0 ge554_0 hcc554 hce554;have HR554_0:=aM hi554_0;have HC554_0:=aM hl554_0;clear hi554_0 hl554_0;replace p554:=eq_true p554;replace q554:=eq_true q554
                  first
                   | clear M1
                     have p555:0≤(x5_1:Int):=odA;have q555:x5_1<(t551.length:Int):=odA;obtain ⟨ad555,A555_0,c555_0,e555,hx555_0,hl555_0,hi555_0⟩:=at_L19 (Kd.S_reads' HO_3.out).2.2 x5_1 p555 q555;obtain rfl:ad554=ad555:=(by injection e555);obtain ⟨ce555,hce555,hMe555,hcc555⟩:=Kd.S_get HO_3.out [] x5_1 p555 (by first|exact q555|exact odA|(have e_:=(Kd.S_reads' HO_3.out).1;omega));obtain ⟨ve555_0,rfl,ge555_0⟩:=hMe555;have hv555_0:=hcc555 0 _ rfl;rw [Nat.add_zero,show ((Kd.slice 3 (Kd.int .i64))).sz=1 from rfl,Nat.mul_one] at hv555_0;replace hv555_0:=sI (hv555_0.symm.trans hx555_0);rw [hv555_0] at ge555_0;have HL555_0:=aM (show Kd.R (Kd.int .i64) 3 _ _ _ _ (rd_L19 t551 x5_1) from ge555_0);clear hv555_0 ge555_0 hcc555 hce555;have HR555_0:=aM hi555_0;have HC555_0:=aM hl555_0;clear hi555_0 hl555_0;replace p555:=eq_true p555;replace q555:=eq_true q555;have ea_:=sI (hx554_0.symm.trans hx555_0)
                     injection ea_ with ea_ en_ ec_
                     subst ea_;subst ec_;clear en_;have p556:0≤(x7_2:Int):=odA;have q556:x7_2<((rd_L19 t551 x5_1).length:Int):=odA;obtain ⟨ad556,e556,hx556_0⟩:=Kd.at_int (by repeat (first|(with_reducible exact HR555_0.out)|(with_reducible refine Kd.C_alloc ?_ _)|(with_reducible refine Kd.C_drewN ?_ _)|(with_reducible refine Kd.C_drew ?_)|exact HR555_0.out)) x7_2 p556 q556
                     cases e556
                     replace p556:=eq_true p556;replace q556:=eq_true q556;try go_wp2_with (first|((with_reducible refine gate_callee (f:=153) rfl ?_);refine goesA (some 37) Tryz.func153 #[.int .i64 (rd (rd_L19 t551 x5_1) x7_2)] ?_;(with_reducible refine (R02_Bytes.calls _ _ _ A206.out).mono ?_);rintro e w301 ⟨rfl,hb⟩;refine ⟨_,rfl,?_⟩;replace HO_3:=aM (Kd.S_below (by (with_reducible repeat (first|apply Kd.S_alloc|apply Kd.S_drewN|apply Kd.S_drew));exact HO_3.out) hb);replace HO_4:=aM (Kd.R_below (raA HO_4.out) hb);replace HL554_0:=aM (Kd.R_below (raA HL554_0.out) hb);replace HL555_0:=aM (Kd.R_below (raA HL555_0.out) hb);replace HR554_0:=aM (Kd.C_below (by repeat (first|(with_reducible exact HR554_0.out)|(with_reducible refine Kd.C_alloc ?_ _)|(with_reducible refine Kd.C_drewN ?_ _)|(with_reducible refine Kd.C_drew ?_)|exact HR554_0.out)) hb);replace HR555_0:=aM (Kd.C_below (by repeat (first|(with_reducible exact HR555_0.out)|(with_reducible refine Kd.C_alloc ?_ _)|(with_reducible refine Kd.C_drewN ?_ _)|(with_reducible refine Kd.C_drew ?_)|exact HR555_0.out)) hb);replace HB:=aM (below_step (bwA) hb);(try clear hb)))
                     go_roundg k2
                     case measure=>have:=HK1.out;have:=HK2.out;omega
                     case rel=>exact ⟨(x6_2++t557),(wrap64 (x7_2+1)),(endS),(endS),H',⟨by have:=HK1.out;have:=HK2.out;omega⟩,⟨by (with_reducible repeat (first|apply Kd.S_alloc|apply Kd.S_drewN|apply Kd.S_drew));exact HO_3.out⟩,⟨raA HO_4.out⟩,⟨bwA⟩⟩
                   | clear M2
                     try go_wp2_with (first|((with_reducible refine gate_builtin (b:=.append) (xs:=#[.tmp 39,.tmp 41]) rfl ?_);at_builtin;refine Kd.R_append Kd.string (w0:=w) w.heap.size rfl (.tmp 39) (.tmp 41) 28 9 (.string ⟨#[]⟩) 16 rfl Tryz.underlying28 info9 rfl (by decide) (by omega) u4 x4_1 x6_2 [.string x6_2] (fun _=>True) (fun _=>False) rfl rfl ?aP (fun _ hk=>hk.elim) ?aF ?aO ?aB ?aS ?aL ?_;(case aP=>exact rfl);(case aB=>exact (bwA));(case aF=>exact (fun _ _=>trivial));(case aO=>exact (raA HO_4.out));(case aS=>exact (below_size (bwA)));(case aL=>have:=LMc205.out;omega);intro v559 w301 ho hb hg hat;rw [← Ny558.out] at ho;have n0_:=aM (Kd.S_over' (by (with_reducible repeat (first|apply Kd.S_alloc|apply Kd.S_drewN|apply Kd.S_drew));exact HO_3.out) (Kd.R_typed (raA HO_4.out)) (by decide) hg);have n1_:=aM (Kd.R_over' (raA HL554_0.out) (Kd.R_typed (raA HO_4.out)) (by decide) hg);have n2_:=aM (hb);have n3_:=aM (ho);clear HO_3;clear HL554_0;clear HB;clear HO_4;have HO_3:=n0_;have HL554_0:=n1_;have HB:=n2_;have HO560:=n3_;clear n0_ n1_ n2_ n3_;clear ho hb hg hat))
                     go_roundg k2
                     case measure=>have:=HK1.out;have:=HK2.out;omega
                     case rel=>exact ⟨(y558),(wrap64 (x5_1+1)),(endS),H',⟨by have:=HK1.out;have:=HK2.out;omega⟩,⟨by (with_reducible repeat (first|apply Kd.S_alloc|apply Kd.S_drewN|apply Kd.S_drew));exact HO_3.out⟩,⟨raA HO560.out⟩,⟨bwA⟩⟩
            | clear M5
              go_ret;exact ⟨_,endA,raA HO_4.out,bwA⟩
     | clear M8
       (try go_wp2_with (fail))
       go_ret;exact ⟨_,endA,by first|exact Kd.R_nil _ _ _ _ _|exact Kd.N_nil _ _ _ _ _|exact Kd.V_nil _ _ _ _ _|exact Kd.Q_nil _ _ _ _ _|exact Kd.S_nil _ _ _ _ _,bwA⟩
end Go.Proofs.YtpjjbaclphoilaaGreatDoor.A
