import Derived.Test.YtpjjbaclphoilaaGreatDoorAx0
import Derived.Test.YtpjjbaclphoilaaGreatDoorAx2
namespace Go.Proofs.YtpjjbaclphoilaaGreatDoor.A
open Go.RowKit Go.Proofs.YtpjjbaclphoilaaGreatDoorW.PrintWords Go.Proofs.YtpjjbaclphoilaaGreatDoorW.PrintLast Go.Proofs.YtpjjbaclphoilaaGreatDoorW.PrintMore
attribute [local go_sem] max2_int min2_int max_two min_two max_three min_three max_four min_four   -- for this text's walks alone
set_option linter.unusedVariables false
set_option linter.unusedSimpArgs false
attribute [local go_sem high] eqA88
set_option maxHeartbeats 8000000
set_option maxRecDepth 100000
def R04_Same.l0:Nat→List (S88)→List (S88)→Int→Option (Bool)
 | 0,_,_,_=>none
 | k+1,x0,x1,x5=>if x5<(x0.length:Int) then (if 0≤x5 then (if x5<(x1.length:Int) then (if (!((((rd_T88 x0 x5).f0).toList) == (((rd_T88 x1 x5).f0).toList)) || (!(((rd_T88 x0 x5).f1) == ((rd_T88 x1 x5).f1)) || (!(((rd_T88 x0 x5).f2) == ((rd_T88 x1 x5).f2)))))=true then (some false) else (R04_Same.l0 k x0 x1 (wrap64 (x5+1)))) else (none)) else (none)) else (some true)
def R04_Same.f (k:Nat) (l0:List (S88)) (l1:List (S88)):Option (Bool):=if (l0.length:Int)=(l1.length:Int) then (R04_Same.l0 k l0 l1 0) else (some false)
theorem R04_Same.calls (k:Nat) (A0:Option Addr) (c0:Nat) (l0:List (S88)) (A1:Option Addr) (c1:Nat) (l1:List (S88)) (r:Bool) (w:World) (hr0:Kd.C k88 w A0 l0.length l0) (hc0:l0.length≤c0) (hr1:Kd.C k88 w A1 l1.length l1) (hc1:l1.length≤c1) (h:R04_Same.f k l0 l1=some r):
  Calls Tryz.prog 57 #[.slice A0 l0.length c0,.slice A1 l1.length c1] w fun e w'=>e=.returned (.bool r)∧Drawn0 w w':=by
 have hu88:=Tryz.underlying88;have HR0:=aM hr0;have HC0:=aM hc0;clear hr0 hc0;have HR1:=aM hr1;have HC1:=aM hc1;clear hr1 hc1;unfold R04_Same.f at h;have H:=h;clear h;revert H;refine itR ?L7p ?L7n
 case' L7p=>
  intro c3 H;obtain ⟨c3b0,c3b1⟩:=fcE c3;have c3b2:(l0.length == l1.length)=true:=by first|simpa using c3|(simp at c3 ⊢;omega)
  clear c3;have H':=aM H;clear H;have M5:=trivial
 case' L7n=>
  intro c3 H;obtain ⟨c3b0,c3b1⟩:=fcN c3;have c3b2:(l0.length == l1.length)=false:=by first|simpa using c3|(simp at c3 ⊢;omega)
  obtain rfl:=sI H;have M6:=trivial
 all_goals
  case _=>
   go_enter Tryz.func57,Tryz.ntmps57;go_wp2;repeat (go_quiet (fail);try go_wp2)
   first
    | clear M5
      go_loopg [5] k (fun kq v5 w'=>∃ (x5_1:Int),v5=.int .i64 x5_1∧Aside0 (R04_Same.l0 kq l0 l1 x5_1=some r)∧Aside0 (kq≤k)∧Drawn0 w w')
      case atStart=>exact ⟨(0),(endS),H',⟨Nat.le_refl _⟩,drA⟩
      case round=>
       clear H';(try clear c1);(try clear p2);(try clear c3);(try clear c3b0);(try clear c3b1);(try clear c3b2);(try clear c5);(try clear c57);obtain ⟨x5_1,rfl,HA,HK1,⟨m1,rfl⟩⟩:=hrel
       cases gk with
       | zero=>exact absurd HA.out (by simp [R04_Same.l0])
       | succ k1=>
        have H:=HA.out;clear HA;simp only [R04_Same.l0] at H;revert H;refine itR ?L3p ?L3n
        case' L3p=>
         intro c101 H;have c101b0:=dT c101;clear c101;replace H:=itN H;obtain ⟨c102,H⟩:=H;have c102b0:=dT c102;clear c102;replace H:=itN H;obtain ⟨c103,H⟩:=H;have c103b0:=dT c103;clear c103;revert H;refine itR ?L4p ?L4n
         case' L4p=>
          intro c104 H;have c104b0:(!((((rd_T88 l0 x5_1).f0).toList) == (((rd_T88 l1 x5_1).f0).toList)) || (!(((rd_T88 l0 x5_1).f1) == ((rd_T88 l1 x5_1).f1)) || (!(((rd_T88 l0 x5_1).f2) == ((rd_T88 l1 x5_1).f2)))))=true:=c104;clear c104;obtain rfl:=sI H;have M1:=trivial
         case' L4n=>
          intro c104 H;have c104b0:(!((((rd_T88 l0 x5_1).f0).toList) == (((rd_T88 l1 x5_1).f0).toList)) || (!(((rd_T88 l0 x5_1).f1) == ((rd_T88 l1 x5_1).f1)) || (!(((rd_T88 l0 x5_1).f2) == ((rd_T88 l1 x5_1).f2)))))=false:=by simpa using c104
          clear c104;have H':=aM H;clear H;have M2:=trivial
        case' L3n=>
         intro c101 H;have c101b0:=dF c101;clear c101;obtain rfl:=sI H;go_wp2;(repeat (go_quiet (fail);try go_wp2));go_ret;exact ⟨endS,drA⟩
        all_goals
         case _=>
          have p577:0≤(x5_1:Int):=odA;have q577:x5_1<(l0.length:Int):=odA;obtain ⟨ad577,e577,hx577_0,hx577_1,hx577_2⟩:=at_T88 HR0.out x5_1 p577 q577
          cases e577
          replace p577:=eq_true p577;replace q577:=eq_true q577;have p578:0≤(x5_1:Int):=odA;have q578:x5_1<(l1.length:Int):=odA;obtain ⟨ad578,e578,hx578_0,hx578_1,hx578_2⟩:=at_T88 HR1.out x5_1 p578 q578
          cases e578
          replace p578:=eq_true p578;replace q578:=eq_true q578;go_wp2;repeat (go_quiet (fail);try go_wp2)
          first
           | clear M1
             go_ret;exact ⟨endS,drA⟩
           | clear M2
             go_roundg k1
             case measure=>have:=HK1.out;omega
             case rel=>exact ⟨(wrap64 (x5_1+1)),(endS),H',⟨by have:=HK1.out;omega⟩,drA⟩
    | clear M6
      go_ret;exact ⟨endS,drA⟩
end Go.Proofs.YtpjjbaclphoilaaGreatDoor.A
