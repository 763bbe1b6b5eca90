import Derived.Test.YtpjjbaclphoilaaGreatDoorAx0
import Derived.Test.YtpjjbaclphoilaaGreatDoorAx16
import Derived.Test.YtpjjbaclphoilaaGreatDoorAx18
import Derived.Test.YtpjjbaclphoilaaGreatDoorAx20
import Derived.Test.YtpjjbaclphoilaaGreatDoorAx22
namespace Go.Proofs.YtpjjbaclphoilaaGreatDoor.A
open Go.RowKit Go.Proofs.YtpjjbaclphoilaaGreatDoorW.PrintWords Go.Proofs.YtpjjbaclphoilaaGreatDoorW.PrintLast Go.Proofs.YtpjjbaclphoilaaGreatDoorW.PrintMore
attribute [local go_sem] max2_int min2_int max_two min_two max_three min_three max_four min_four   -- for this text's walks alone
set_option linter.unusedVariables false
set_option linter.unusedSimpArgs false
set_option maxHeartbeats 8000000
set_option maxRecDepth 100000
def R04_Get.l0:Nat→List (S114)→ByteArray→Int→Option (Int)
 | 0,_,_,_=>none
 | k+1,x0,x1,x5=>if x5<(x0.length:Int) then (if 0≤x5 then ((R04_same.f k ((rd_T114 x0 x5).f0) x1).bind fun t602=>(if t602=true then (some x5) else (R04_Get.l0 k x0 x1 (wrap64 (x5+1))))) else (none)) else (some (-1))
def R04_Get.f (k:Nat) (l0:List (S114)) (a1:ByteArray):Option (Int):=R04_Get.l0 k l0 a1 0
theorem R04_Get.calls (k:Nat) (A0:Option Addr) (c0:Nat) (l0:List (S114)) (a1:ByteArray) (r:Int) (w:World) (hr0:Kd.C k114 w A0 l0.length l0) (hc0:l0.length≤c0) (h:R04_Get.f k l0 a1=some r):
  Calls Tryz.prog 116 #[.slice A0 l0.length c0,.string a1] w fun e w'=>e=.returned (.int .i64 r)∧Below w.heap.size w w':=by
 have HR0:=aM hr0;have HC0:=aM hc0;clear hr0 hc0;have HB:=aM (Below.refl w.heap.size w);unfold R04_Get.f at h;have H:=h;clear h;have H':=aM H;clear H;go_enter Tryz.func116,Tryz.ntmps116;go_wp2
 go_loopg [5] k (fun kq v5 w'=>∃ (x5_1:Int),v5=.int .i64 x5_1∧Aside0 (R04_Get.l0 kq l0 a1 x5_1=some r)∧Aside0 (kq≤k)∧Aside0 (Below w.heap.size w w'))
 case atStart=>exact ⟨(0),(endS),H',⟨Nat.le_refl _⟩,⟨bwA⟩⟩
 case round=>
  clear H';(try clear c1);(try clear p2);(try clear c11);obtain ⟨x5_1,rfl,HA,HK1,HB⟩:=hrel
  cases gk with
  | zero=>exact absurd HA.out (by simp [R04_Get.l0])
  | succ k1=>
   have H:=HA.out;clear HA;simp only [R04_Get.l0] at H;revert H;refine itR ?L3p ?L3n
   case' L3p=>
    intro c101 H;have c101b0:=dT c101;clear c101;replace H:=itN H;obtain ⟨c102,H⟩:=H;have c102b0:=dT c102;clear c102;replace H:=bnA H;obtain ⟨t602,A103,H⟩:=H;revert H;refine itR ?L4p ?L4n
    case' L4p=>
     intro c104 H;subst c104;obtain rfl:=sI H;have M1:=trivial
    case' L4n=>
     intro c104 H;replace c104:=Bool.eq_false_iff.mpr c104;subst c104;have H':=aM H;clear H;have M2:=trivial
   case' L3n=>
    intro c101 H;have c101b0:=dF c101;clear c101;obtain rfl:=sI H;go_wp2;go_ret;exact ⟨endA,bwA⟩
   all_goals
    case _=>
     have p601:0≤(x5_1:Int):=odA;have q601:x5_1<(l0.length:Int):=odA;obtain ⟨ad601,e601,hx601_0,hx601_1,hx601_2,hx601_3⟩:=at_T114 HR0.out x5_1 p601 q601
     cases e601
     replace hx601_0:=crA hx601_0;replace hx601_1:=crA hx601_1;replace hx601_2:=crA hx601_2;replace hx601_3:=crA hx601_3;replace p601:=eq_true p601;replace q601:=eq_true q601;try go_wp2_with (first|((with_reducible refine gate_callee (f:=71) rfl ?_);refine goesA (some 18) Tryz.func71 #[.string ((rd_T114 l0 x5_1).f0),.string a1] ?_;(with_reducible refine (R04_same.calls _ _ _ _ _ A103.out).mono ?_);rintro e w201 ⟨rfl,hb⟩;refine ⟨_,rfl,?_⟩;replace HB:=aM (below_step (bwA) hb);(try clear hb)))
     first
      | clear M1
        go_ret;exact ⟨endA,bwA⟩
      | clear M2
        go_roundg k1
        case measure=>have:=HK1.out;omega
        case rel=>exact ⟨(wrap64 (x5_1+1)),(endS),H',⟨by have:=HK1.out;omega⟩,⟨bwA⟩⟩
mutual
def R04_Fits.j0:Nat→List (S88)→List (S114)→Bool→Option (Int)
 | 0,_,_,_=>none
 | k+1,x0,x1,x15=>if x15=true then (some 1) else (R04_Fits.l0 k x0 x1 0)
def R04_Fits.l0:Nat→List (S88)→List (S114)→Int→Option (Int)
 | 0,_,_,_=>none
 | k+1,x0,x1,x5=>if x5<(x1.length:Int) then (if 0≤x5 then ((R04_Find.f k x0 ((rd_T114 x1 x5).f0)).bind fun t606=>(if t606<0 then (some 4) else (if 0≤t606 then (if t606<(x0.length:Int) then (if ((rd_T88 x0 t606).f1)=((rd_T114 x1 x5).f1.f0) then (R04_Fits.l0 k x0 x1 (wrap64 (x5+1))) else (some 8)) else (none)) else (none)))) else (none)) else (R04_Fits.l1 k x0 x1 0)
def R04_Fits.l1:Nat→List (S88)→List (S114)→Int→Option (Int)
 | 0,_,_,_=>none
 | k+1,x0,x1,x7=>if x7<(x0.length:Int) then (if 0≤x7 then (if (rd_T88 x0 x7).f2=true then ((R04_Get.f k x1 ((rd_T88 x0 x7).f0)).bind fun t611=>(if t611<0 then (some 7) else (R04_Fits.l1 k x0 x1 (wrap64 (x7+1))))) else (R04_Fits.l1 k x0 x1 (wrap64 (x7+1)))) else (none)) else (some 0)
end
def R04_Fits.f (k:Nat) (l0:List (S88)) (l1:List (S114)):Option (Int):=(R04_Check.f k l0).bind fun t603=>(if t603=true then ((R04_Attrs.f k l1).bind fun t604=>(R04_Fits.j0 k l0 l1 (!t604))) else (R04_Fits.j0 k l0 l1 true))
theorem R04_Fits.calls (k:Nat) (A0:Option Addr) (c0:Nat) (l0:List (S88)) (A1:Option Addr) (c1:Nat) (l1:List (S114)) (r:Int) (w:World) (hr0:Kd.C k88 w A0 l0.length l0) (hc0:l0.length≤c0) (hr1:Kd.C k114 w A1 l1.length l1) (hc1:l1.length≤c1) (h:R04_Fits.f k l0 l1=some r):
  Calls Tryz.prog 70 #[.slice A0 l0.length c0,.slice A1 l1.length c1] w fun e w'=>e=.returned (.int .i64 r)∧Below w.heap.size w w':=by
 have HR0:=aM hr0;have HC0:=aM hc0;clear hr0 hc0;have HR1:=aM hr1;have HC1:=aM hc1;clear hr1 hc1;have HB:=aM (Below.refl w.heap.size w);unfold R04_Fits.f at h;have H:=h;clear h;have HC101:=aM H;clear H;go_enter Tryz.func70,Tryz.ntmps70;go_upto_region 1 with (fail);(repeat (go_quiet (fail);go_upto_region 1 with (fail)));go_cut [15] (fun v15 wc=>∃ (kq:Nat) (x15_100:Bool),v15=.bool x15_100∧Aside0 (R04_Fits.j0 kq l0 l1 x15_100=some r)∧Aside0 (kq≤k)∧Aside0 (Below w.heap.size w wc))
 case first=>
  have H:=HC101.out;clear HC101;replace H:=bnA H;obtain ⟨t603,A102,H⟩:=H;revert H;refine itR ?L3p ?L3n
  case' L3p=>
   intro c103 H;subst c103;replace H:=bnA H;obtain ⟨t604,A104,H⟩:=H;have H':=aM H;clear H;have M1:=trivial
  case' L3n=>
   intro c103 H;replace c103:=Bool.eq_false_iff.mpr c103;subst c103;have H':=aM H;clear H;have M2:=trivial
  all_goals
   case _=>
    go_wp2_with (first|(go_at_call 52;(with_reducible refine (R04_Check.calls _ _ _ _ _ _ ?side1 ?side2 A102.out).mono ?_);(case side1=>exact Kd.C_below HR0.out (bwA));(case side2=>exact HC0.out);rintro e w201 ⟨rfl,hb⟩;replace HB:=aM (below_step (bwA) hb);(try clear hb);apply stopA;(case other=>exact trivial)))
    case _=>
     first
      | clear M1
        (try go_wp2_with (first|(go_at_call 115;(with_reducible refine (R04_Attrs.calls _ _ _ _ _ _ ?side1 ?side2 A104.out).mono ?_);(case side1=>exact Kd.C_below HR1.out (bwA));(case side2=>exact HC1.out);rintro e w202 ⟨rfl,hb⟩;replace HB:=aM (below_step (bwA) hb);(try clear hb))));repeat (go_quiet (first|(go_at_call 52;(with_reducible refine (R04_Check.calls _ _ _ _ _ _ ?side1 ?side2 A102.out).mono ?_);(case side1=>exact Kd.C_below HR0.out (bwA));(case side2=>exact HC0.out);rintro e w201 ⟨rfl,hb⟩;have n0_:=aM (below_step (bwA) hb);clear HB;have HB:=n0_;clear n0_;(try clear hb);(try clear hb2);(try clear hk);(try clear hi))|(go_at_call 115;(with_reducible refine (R04_Attrs.calls k _ _ l1 t604 _ ?side1 ?side2 A104.out).mono ?_);(case side1=>exact Kd.C_below HR1.out (bwA));(case side2=>exact HC1.out);rintro e w202 ⟨rfl,hb⟩;have n0_:=aM (below_step (bwA) hb);clear HB;have HB:=n0_;clear n0_;(try clear hb);(try clear hb2);(try clear hk);(try clear hi)));try go_wp2_with (first|(go_at_call 52;(with_reducible refine (R04_Check.calls k _ _ l0 true _ ?side1 ?side2 A102.out).mono ?_);(case side1=>exact Kd.C_below HR0.out (bwA));(case side2=>exact HC0.out);rintro e w201 ⟨rfl,hb⟩;have n0_:=aM (below_step (bwA) hb);clear HB;have HB:=n0_;clear n0_;(try clear hb);(try clear hb2);(try clear hk);(try clear hi))|(go_at_call 115;(with_reducible refine (R04_Attrs.calls k _ _ l1 t604 _ ?side1 ?side2 A104.out).mono ?_);(case side1=>exact Kd.C_below HR1.out (bwA));(case side2=>exact HC1.out);rintro e w202 ⟨rfl,hb⟩;have n0_:=aM (below_step (bwA) hb);clear HB;have HB:=n0_;clear n0_;(try clear hb);(try clear hb2);(try clear hk);(try clear hi))))
        go_meet
        case rel=>exact ⟨_,(!t604),(endS),H',⟨by first|omega|exact Nat.le_refl _⟩,⟨bwA⟩⟩
      | clear M2
        (try go_wp2_with (fail))
        repeat (go_quiet (first|(go_at_call 52;(with_reducible refine (R04_Check.calls _ _ _ _ _ _ ?side1 ?side2 A102.out).mono ?_);(case side1=>exact Kd.C_below HR0.out (bwA));(case side2=>exact HC0.out);rintro e w201 ⟨rfl,hb⟩;have n0_:=aM (below_step (bwA) hb);clear HB;have HB:=n0_;clear n0_;(try clear hb);(try clear hb2);(try clear hk);(try clear hi)));try go_wp2_with (first|(go_at_call 52;(with_reducible refine (R04_Check.calls k _ _ l0 false _ ?side1 ?side2 A102.out).mono ?_);(case side1=>exact Kd.C_below HR0.out (bwA));(case side2=>exact HC0.out);rintro e w201 ⟨rfl,hb⟩;have n0_:=aM (below_step (bwA) hb);clear HB;have HB:=n0_;clear n0_;(try clear hb);(try clear hb2);(try clear hk);(try clear hi))))
        go_meet
        case rel=>exact ⟨_,(true),(endS),H',⟨by first|omega|exact Nat.le_refl _⟩,⟨bwA⟩⟩
 case rest=>
  clear HC101;(try clear c1);(try clear p2);(try clear c7);(try clear c10);(try clear c70);obtain ⟨kq,x15_100,rfl,HA,HJ100,HB⟩:=hcut
  cases kq with
  | zero=>exact absurd HA.out (by simp [R04_Fits.j0])
  | succ kj100=>
   have H:=HA.out;clear HA;simp only [R04_Fits.j0] at H;revert H;refine itR ?L27p ?L27n
   case' L27p=>
    intro c102 H;subst c102;obtain rfl:=sI H;have M25:=trivial
   case' L27n=>
    intro c102 H;replace c102:=Bool.eq_false_iff.mpr c102;subst c102;have H':=aM H;clear H;have M26:=trivial
   all_goals
    case _=>
     go_wp2;repeat (go_quiet (fail);try go_wp2)
     first
      | clear M25
        go_ret;exact ⟨endA,bwA⟩
      | clear M26
        go_loopg [5] kj100 (fun kq v5 w'=>∃ (x5_2:Int),v5=.int .i64 x5_2∧Aside0 (R04_Fits.l0 kq l0 l1 x5_2=some r)∧Aside0 (kq≤kj100)∧Aside0 (Below w.heap.size w w'))
        case atStart=>exact ⟨(0),(endS),H',⟨Nat.le_refl _⟩,⟨bwA⟩⟩
        case round=>
         clear H';(try clear c1);(try clear p2);(try clear c7);(try clear c10);(try clear c70);(try clear c102);(try clear c103);(try clear p2);obtain ⟨x5_2,rfl,HA,HK2,HB⟩:=hrel
         cases gk with
         | zero=>exact absurd HA.out (by simp [R04_Fits.l0])
         | succ k2=>
          have H:=HA.out;clear HA;simp only [R04_Fits.l0] at H;revert H;refine itR ?L15p ?L15n
          case' L15p=>
           intro c201 H;have c201b0:=dT c201;clear c201;replace H:=itN H;obtain ⟨c202,H⟩:=H;have c202b0:=dT c202;clear c202;replace H:=bnA H;obtain ⟨t606,A203,H⟩:=H;revert H;refine itR ?L16p ?L16n
           case' L16p=>
            intro c204 H;have c204b0:=dT c204;clear c204;obtain rfl:=sI H;have M11:=trivial
           case' L16n=>
            intro c204 H;have c204b0:=dF c204;clear c204;replace H:=itN H;obtain ⟨c205,H⟩:=H;have c205b0:=dT c205;clear c205;replace H:=itN H;obtain ⟨c206,H⟩:=H;have c206b0:=dT c206;clear c206;revert H;refine itQ ?L17p ?L17n
            case' L17p=>
             rintro ⟨c207b0,c207b1⟩ H;have H':=aM H;clear H;have M12:=trivial;have M13:=trivial
            case' L17n=>
             rintro ⟨c207b0,c207b1⟩ c207 H;obtain rfl:=sI H;have M12:=trivial;have M14:=trivial
          case' L15n=>
           intro c201 H;have c201b0:=dF c201;clear c201;have H':=aM H;clear H;go_wp2;repeat (go_quiet (fail);try go_wp2)
           go_loopg [7] k2 (fun kq v7 w'=>∃ (x7_3:Int),v7=.int .i64 x7_3∧Aside0 (R04_Fits.l1 kq l0 l1 x7_3=some r)∧Aside0 (kq≤k2)∧Aside0 (Below w.heap.size w w'))
           case atStart=>exact ⟨(0),(endS),H',⟨Nat.le_refl _⟩,⟨bwA⟩⟩
           case round=>
            clear H';(try clear c1);(try clear c2);(try clear p2);(try clear p6);(try clear q6);(try clear hx6);(try clear c7);(try clear c10);(try clear c20);(try clear p60);(try clear q60);(try clear hx60);(try clear p64);(try clear c70);(try clear c102);(try clear c103);(try clear c201);(try clear c201b0);(try clear c202);(try clear c202b0);(try clear c204);(try clear c204b0);(try clear c205);(try clear c205b0);(try clear c206);(try clear c206b0);(try clear c207);(try clear c207b0);(try clear c207b1);(try clear hx605_0);(try clear hx605_1);(try clear hx605_2);(try clear hx605_3);(try clear hx607_0);(try clear hx607_1);(try clear hx607_2);(try clear hx608_0);(try clear hx608_1);(try clear hx608_2);(try clear hx608_3);(try clear p2);(try clear p605);(try clear p607);(try clear p608);(try clear q605);(try clear q607);(try clear q608);obtain ⟨x7_3,rfl,HA,HK3,HB⟩:=hrel
            cases gk with
            | zero=>exact absurd HA.out (by simp [R04_Fits.l1])
            | succ k3=>
             have H:=HA.out;clear HA;simp only [R04_Fits.l1] at H;revert H;refine itR ?L22p ?L22n
             case' L22p=>
              intro c301 H;have c301b0:=dT c301;clear c301;replace H:=itN H;obtain ⟨c302,H⟩:=H;have c302b0:=dT c302;clear c302;obtain ⟨bq303,hbq303⟩:∃ b_:Bool,b_=((rd_T88 l0 x7_3).f2):=⟨_,rfl⟩;replace H:(if bq303=true then ((R04_Get.f k3 l1 ((rd_T88 l0 x7_3).f0)).bind fun t611=>(if t611<0 then (some 7) else (R04_Fits.l1 k3 l0 l1 (wrap64 (x7_3+1))))) else (R04_Fits.l1 k3 l0 l1 (wrap64 (x7_3+1))))=some r:=by rw [← hbq303] at H;exact H
              have Nbq303:=aM hbq303;clear hbq303;revert H;refine itR ?L23p ?L23n
              case' L23p=>
               intro c304 H;subst c304;replace H:=bnA H;obtain ⟨t611,A305,H⟩:=H;revert H;refine itR ?L24p ?L24n
               case' L24p=>
                intro c306 H;have c306b0:=dT c306;clear c306;obtain rfl:=sI H;have M18:=trivial;have M19:=trivial
               case' L24n=>
                intro c306 H;have c306b0:=dF c306;clear c306;have H':=aM H;clear H;have M18:=trivial;have M20:=trivial
              case' L23n=>
               intro c304 H;replace c304:=Bool.eq_false_iff.mpr c304;subst c304;have H':=aM H;clear H;have M21:=trivial
             case' L22n=>
              intro c301 H;have c301b0:=dF c301;clear c301;obtain rfl:=sI H;go_wp2;(repeat (go_quiet (fail);try go_wp2));go_ret;exact ⟨endA,bwA⟩
             all_goals
              case _=>
               have p609:0≤(x7_3:Int):=odA;have q609:x7_3<(l0.length:Int):=odA;obtain ⟨ad609,e609,hx609_0,hx609_1,hx609_2⟩:=at_T88 HR0.out x7_3 p609 q609
               (try rw [← Nbq303.out] at hx609_2)
               cases e609
               replace hx609_0:=crA hx609_0;replace hx609_1:=crA hx609_1;replace hx609_2:=crA hx609_2;replace p609:=eq_true p609;replace q609:=eq_true q609
               first
                | clear M18
                  have p610:0≤(x7_3:Int):=odA;have q610:x7_3<(l0.length:Int):=odA;obtain ⟨ad610,e610,hx610_0,hx610_1,hx610_2⟩:=at_T88 HR0.out x7_3 p610 q610
                  (try rw [← Nbq303.out] at hx610_2)
                  obtain rfl:ad609=ad610:=(by injection e610);replace hx610_0:=crA hx610_0;replace hx610_1:=crA hx610_1;replace hx610_2:=crA hx610_2;replace p610:=eq_true p610;replace q610:=eq_true q610;(try go_wp2_with (first|(go_at_call 116;(with_reducible refine (R04_Get.calls _ _ _ _ _ _ _ ?side1 ?side2 A305.out).mono ?_);(case side1=>exact Kd.C_below HR1.out (bwA));(case side2=>exact HC1.out);rintro e w401 ⟨rfl,hb⟩;replace HB:=aM (below_step (bwA) hb);(try clear hb))));repeat (go_quiet (first|(go_at_call 116;(with_reducible refine (R04_Get.calls _ _ _ _ _ _ _ ?side1 ?side2 A305.out).mono ?_);(case side1=>exact Kd.C_below HR1.out (bwA));(case side2=>exact HC1.out);rintro e w401 ⟨rfl,hb⟩;have n0_:=aM (below_step (bwA) hb);clear HB;have HB:=n0_;clear n0_;(try clear hb);(try clear hb2);(try clear hk);(try clear hi)));try go_wp2_with (first|(go_at_call 116;(with_reducible refine (R04_Get.calls k3 _ _ l1 ((rd_T88 l0 x7_3).f0) t611 _ ?side1 ?side2 A305.out).mono ?_);(case side1=>exact Kd.C_below HR1.out (bwA));(case side2=>exact HC1.out);rintro e w401 ⟨rfl,hb⟩;have n0_:=aM (below_step (bwA) hb);clear HB;have HB:=n0_;clear n0_;(try clear hb);(try clear hb2);(try clear hk);(try clear hi))))
                  first
                   | clear M19
                     go_ret;exact ⟨endA,bwA⟩
                   | clear M20
                     go_roundg k3
                     case measure=>have:=HJ100.out;have:=HK2.out;have:=HK3.out;omega
                     case rel=>exact ⟨(wrap64 (x7_3+1)),(endS),H',⟨by have:=HJ100.out;have:=HK2.out;have:=HK3.out;omega⟩,⟨bwA⟩⟩
                | clear M21
                  go_wp2;repeat (go_quiet (fail);try go_wp2)
                  go_roundg k3
                  case measure=>have:=HJ100.out;have:=HK2.out;have:=HK3.out;omega
                  case rel=>exact ⟨(wrap64 (x7_3+1)),(endS),H',⟨by have:=HJ100.out;have:=HK2.out;have:=HK3.out;omega⟩,⟨bwA⟩⟩
          all_goals
           case _=>
            have p605:0≤(x5_2:Int):=odA;have q605:x5_2<(l1.length:Int):=odA;obtain ⟨ad605,e605,hx605_0,hx605_1,hx605_2,hx605_3⟩:=at_T114 HR1.out x5_2 p605 q605
            cases e605
            replace hx605_0:=crA hx605_0;replace hx605_1:=crA hx605_1;replace hx605_2:=crA hx605_2;replace hx605_3:=crA hx605_3;replace p605:=eq_true p605;replace q605:=eq_true q605;go_wp2_with (first|(go_at_call 33;(with_reducible refine (R04_Find.calls _ _ _ _ _ _ _ ?side1 ?side2 A203.out).mono ?_);(case side1=>exact Kd.C_below HR0.out (bwA));(case side2=>exact HC0.out);rintro e w301 ⟨rfl,hb⟩;replace HB:=aM (below_step (bwA) hb);(try clear hb);apply stopA;(case other=>exact trivial)))
            case _=>
             first
              | clear M11
                (try go_wp2_with (fail))
                (repeat (go_quiet (first|(go_at_call 33;(with_reducible refine (R04_Find.calls _ _ _ _ _ _ _ ?side1 ?side2 A203.out).mono ?_);(case side1=>exact Kd.C_below HR0.out (bwA));(case side2=>exact HC0.out);rintro e w301 ⟨rfl,hb⟩;have n0_:=aM (below_step (bwA) hb);clear HB;have HB:=n0_;clear n0_;(try clear hb);(try clear hb2);(try clear hk);(try clear hi)));try go_wp2_with (first|(go_at_call 33;(with_reducible refine (R04_Find.calls k2 _ _ l0 ((rd_T114 l1 x5_2).f0) t606 _ ?side1 ?side2 A203.out).mono ?_);(case side1=>exact Kd.C_below HR0.out (bwA));(case side2=>exact HC0.out);rintro e w301 ⟨rfl,hb⟩;have n0_:=aM (below_step (bwA) hb);clear HB;have HB:=n0_;clear n0_;(try clear hb);(try clear hb2);(try clear hk);(try clear hi)))));go_ret;exact ⟨endA,bwA⟩
              | clear M12
                have p607:0≤(t606:Int):=odA;have q607:t606<(l0.length:Int):=odA;obtain ⟨ad607,e607,hx607_0,hx607_1,hx607_2⟩:=at_T88 HR0.out t606 p607 q607
                cases e607
                replace hx607_0:=crA hx607_0;replace hx607_1:=crA hx607_1;replace hx607_2:=crA hx607_2;replace p607:=eq_true p607;replace q607:=eq_true q607;have p608:0≤(x5_2:Int):=odA;have q608:x5_2<(l1.length:Int):=odA;obtain ⟨ad608,e608,hx608_0,hx608_1,hx608_2,hx608_3⟩:=at_T114 HR1.out x5_2 p608 q608;obtain rfl:ad605=ad608:=(by injection e608);replace hx608_0:=crA hx608_0;replace hx608_1:=crA hx608_1;replace hx608_2:=crA hx608_2;replace hx608_3:=crA hx608_3;replace p608:=eq_true p608;replace q608:=eq_true q608
                (try go_wp2_with (fail))
                repeat (go_quiet (first|(go_at_call 33;(with_reducible refine (R04_Find.calls _ _ _ _ _ _ _ ?side1 ?side2 A203.out).mono ?_);(case side1=>exact Kd.C_below HR0.out (bwA));(case side2=>exact HC0.out);rintro e w301 ⟨rfl,hb⟩;have n0_:=aM (below_step (bwA) hb);clear HB;have HB:=n0_;clear n0_;(try clear hb);(try clear hb2);(try clear hk);(try clear hi);have p607:0≤(t606:Int):=odA;have q607:t606<(l0.length:Int):=odA;obtain ⟨ad607,e607,hx607_0,hx607_1,hx607_2⟩:=at_T88 HR0.out t606 p607 q607;cases e607;replace hx607_0:=crA hx607_0;replace hx607_1:=crA hx607_1;replace hx607_2:=crA hx607_2;replace p607:=eq_true p607;replace q607:=eq_true q607;have p608:0≤(x5_2:Int):=odA;have q608:x5_2<(l1.length:Int):=odA;obtain ⟨ad608,e608,hx608_0,hx608_1,hx608_2,hx608_3⟩:=at_T114 HR1.out x5_2 p608 q608;obtain rfl:ad605=ad608:=(by injection e608);replace hx608_0:=crA hx608_0;replace hx608_1:=crA hx608_1;replace hx608_2:=crA hx608_2;replace hx608_3:=crA hx608_3;replace p608:=eq_true p608;replace q608:=eq_true q608));try go_wp2_with (first|(go_at_call 33;(with_reducible refine (R04_Find.calls k2 _ _ l0 ((rd_T114 l1 x5_2).f0) t606 _ ?side1 ?side2 A203.out).mono ?_);(case side1=>exact Kd.C_below HR0.out (bwA));(case side2=>exact HC0.out);rintro e w301 ⟨rfl,hb⟩;have n0_:=aM (below_step (bwA) hb);clear HB;have HB:=n0_;clear n0_;(try clear hb);(try clear hb2);(try clear hk);(try clear hi);have p607:0≤(t606:Int):=odA;have q607:t606<(l0.length:Int):=odA;obtain ⟨ad607,e607,hx607_0,hx607_1,hx607_2⟩:=at_T88 HR0.out t606 p607 q607;cases e607;replace hx607_0:=crA hx607_0;replace hx607_1:=crA hx607_1;replace hx607_2:=crA hx607_2;replace p607:=eq_true p607;replace q607:=eq_true q607;have p608:0≤(x5_2:Int):=odA;have q608:x5_2<(l1.length:Int):=odA;obtain ⟨ad608,e608,hx608_0,hx608_1,hx608_2,hx608_3⟩:=at_T114 HR1.out x5_2 p608 q608;obtain rfl:ad605=ad608:=(by injection e608);replace hx608_0:=crA hx608_0;replace hx608_1:=crA hx608_1;replace hx608_2:=crA hx608_2;replace hx608_3:=crA hx608_3;replace p608:=eq_true p608;replace q608:=eq_true q608)))
                first
                 | clear M13
                   go_roundg k2
                   case measure=>have:=HJ100.out;have:=HK2.out;omega
                   case rel=>exact ⟨(wrap64 (x5_2+1)),(endS),H',⟨by have:=HJ100.out;have:=HK2.out;omega⟩,⟨bwA⟩⟩
                 | clear M14
                   go_ret;exact ⟨endA,bwA⟩
def R05_Fits.f (k:Nat) (a0_0:ByteArray) (a0_1:ByteArray) (l0_2:List (S88)) (l0_3:List (S88)) (l0_4:List ByteArray) (a0_5:Int) (a0_6:Int) (a0_7:Int) (a1:ByteArray) (l2:List (S114)):Option (Int):=(R05_Check.f k a0_0 a0_1 l0_2 l0_3 l0_4 a0_5 a0_6 a0_7).bind fun t613=>(if t613=true then ((R05_Alike.f k a0_0 a1).bind fun t614=>(if t614=true then ((R04_Fits.f k l0_3 l2).bind fun t615=>(some t615)) else (some 4))) else (some 1))
theorem R05_Fits.calls (k:Nat) (a0_0:ByteArray) (a0_1:ByteArray) (A0_2:Option Addr) (c0_2:Nat) (l0_2:List (S88)) (A0_3:Option Addr) (c0_3:Nat) (l0_3:List (S88)) (A0_4:Option Addr) (c0_4:Nat) (l0_4:List ByteArray) (a0_5:Int) (a0_6:Int) (a0_7:Int) (a1:ByteArray) (A2:Option Addr) (c2:Nat) (l2:List (S114)) (r:Int) (w:World) (hr0_2:Kd.C k88 w A0_2 l0_2.length l0_2) (hc0_2:l0_2.length≤c0_2) (hr0_3:Kd.C k88 w A0_3 l0_3.length l0_3) (hc0_3:l0_3.length≤c0_3) (hr0_4:Kd.C Kd.string w A0_4 l0_4.length l0_4) (hc0_4:l0_4.length≤c0_4) (hr2:Kd.C k114 w A2 l2.length l2) (hc2:l2.length≤c2) (h:R05_Fits.f k a0_0 a0_1 l0_2 l0_3 l0_4 a0_5 a0_6 a0_7 a1 l2=some r):
  Calls Tryz.prog 32 #[.agg #[.string a0_0,.string a0_1,.slice A0_2 l0_2.length c0_2,.slice A0_3 l0_3.length c0_3,.slice A0_4 l0_4.length c0_4,.int .i64 a0_5,.int .i64 a0_6,.int .i64 a0_7],.string a1,.slice A2 l2.length c2] w fun e w'=>e=.returned (.int .i64 r)∧Below w.heap.size w w':=by
 have hu41:=Tryz.underlying41;have HR0_2:=aM hr0_2;have HC0_2:=aM hc0_2;clear hr0_2 hc0_2;have HR0_3:=aM hr0_3;have HC0_3:=aM hc0_3;clear hr0_3 hc0_3;have HR0_4:=aM hr0_4;have HC0_4:=aM hc0_4;clear hr0_4 hc0_4;have HR2:=aM hr2;have HC2:=aM hc2;clear hr2 hc2;have HB:=aM (Below.refl w.heap.size w);unfold R05_Fits.f at h;have H:=h;clear h;replace H:=bnA H;obtain ⟨t613,A4,H⟩:=H;revert H;refine itR ?L5p ?L5n
 case' L5p=>
  intro c5 H;subst c5;replace H:=bnA H;obtain ⟨t614,A6,H⟩:=H;revert H;refine itR ?L6p ?L6n
  case' L6p=>
   intro c7 H;subst c7;replace H:=bnA H;obtain ⟨t615,A8,H⟩:=H;obtain rfl:=sI H;have M1:=trivial;have M2:=trivial
  case' L6n=>
   intro c7 H;replace c7:=Bool.eq_false_iff.mpr c7;subst c7;obtain rfl:=sI H;have M1:=trivial;have M3:=trivial
 case' L5n=>
  intro c5 H;replace c5:=Bool.eq_false_iff.mpr c5;subst c5;obtain rfl:=sI H;have M4:=trivial
 all_goals
  case _=>
   go_enter Tryz.func32,Tryz.ntmps32;go_wp2_with (first|((with_reducible refine gate_dst (N:=3) rfl ?_);refine boxB 3 #[.string a0_0,.string a0_1,.slice A0_2 l0_2.length c0_2,.slice A0_3 l0_3.length c0_3,.slice A0_4 l0_4.length c0_4,.int .i64 a0_5,.int .i64 a0_6,.int .i64 a0_7] 41 HB ?_;clear HB;intro gb612 w101 BK612 GW612 GE612 HB;obtain ⟨hcz102_0,hcz102_1,hcz102_2,hcz102_3,hcz102_4,hcz102_5,hcz102_6,hcz102_7⟩:=cel8 BK612.out;obtain ⟨hfz102_0,hfz102_1,hfz102_2,hfz102_3,hfz102_4,hfz102_5,hfz102_6,hfz102_7⟩:=frz8 BK612.out)|((with_reducible refine gate_callee (f:=51) rfl ?_);refine goesA (some 8) Tryz.func51 #[.agg #[.string a0_0,.string a0_1,.slice A0_2 l0_2.length c0_2,.slice A0_3 l0_3.length c0_3,.slice A0_4 l0_4.length c0_4,.int .i64 a0_5,.int .i64 a0_6,.int .i64 a0_7]] ?_;(with_reducible refine (R05_Check.calls _ _ _ _ _ _ _ _ _ _ _ _ _ _ _ _ _ ?side1 ?side2 ?side3 ?side4 ?side5 ?side6 A4.out).mono ?_);(case side1=>exact Kd.C_below HR0_2.out (bwA));(case side2=>exact HC0_2.out);(case side3=>exact Kd.C_below HR0_3.out (bwA));(case side4=>exact HC0_3.out);(case side5=>exact Kd.C_below HR0_4.out (bwA));(case side6=>exact HC0_4.out);rintro e w103 ⟨rfl,hb⟩;refine ⟨_,rfl,?_⟩;replace BK612:=aM (bkB BK612 hb);replace HB:=aM (below_step (bwA) hb);(try clear hb);apply stopA;(case other=>exact trivial)))
   case _=>
    first
     | clear M1
       obtain ⟨hcz104_0,hcz104_1,hcz104_2,hcz104_3,hcz104_4,hcz104_5,hcz104_6,hcz104_7⟩:=cel8 BK612.out;obtain ⟨hfz104_0,hfz104_1,hfz104_2,hfz104_3,hfz104_4,hfz104_5,hfz104_6,hfz104_7⟩:=frz8 BK612.out;go_wp2_with (first|((with_reducible refine gate_callee (f:=69) rfl ?_);refine goesA (some 13) Tryz.func69 #[.string a0_0,.string a1] ?_;(with_reducible refine (R05_Alike.calls _ _ _ _ _ A6.out).mono ?_);rintro e w105 ⟨rfl,hb⟩;refine ⟨_,rfl,?_⟩;replace BK612:=aM (bkB BK612 hb);replace HB:=aM (below_step (bwA) hb);(try clear hb);apply stopA;(case other=>exact trivial)))
       case _=>
        first
         | clear M2
           obtain ⟨hcz106_0,hcz106_1,hcz106_2,hcz106_3,hcz106_4,hcz106_5,hcz106_6,hcz106_7⟩:=cel8 BK612.out;obtain ⟨hfz106_0,hfz106_1,hfz106_2,hfz106_3,hfz106_4,hfz106_5,hfz106_6,hfz106_7⟩:=frz8 BK612.out;(try go_wp2_with (first|((with_reducible refine gate_callee (f:=70) rfl ?_);refine goesA (some 18) Tryz.func70 #[.slice A0_3 l0_3.length c0_3,.slice A2 l2.length c2] ?_;(with_reducible refine (R04_Fits.calls _ _ _ _ _ _ _ _ _ ?side1 ?side2 ?side3 ?side4 A8.out).mono ?_);(case side1=>exact Kd.C_below HR0_3.out (bwA));(case side2=>exact HC0_3.out);(case side3=>exact Kd.C_below HR2.out (bwA));(case side4=>exact HC2.out);rintro e w107 ⟨rfl,hb⟩;refine ⟨_,rfl,?_⟩;replace BK612:=aM (bkB BK612 hb);replace HB:=aM (below_step (bwA) hb);(try clear hb))));go_ret;exact ⟨endA,bwA⟩
         | clear M3
           (try go_wp2_with (fail))
           go_ret;exact ⟨endA,bwA⟩
     | clear M4
       (try go_wp2_with (fail))
       go_ret;exact ⟨endA,bwA⟩
end Go.Proofs.YtpjjbaclphoilaaGreatDoor.A
