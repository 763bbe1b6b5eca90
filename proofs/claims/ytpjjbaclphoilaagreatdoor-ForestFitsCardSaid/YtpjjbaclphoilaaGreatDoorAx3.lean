import Derived.Test.YtpjjbaclphoilaaGreatDoorAx0
namespace Go.Proofs.YtpjjbaclphoilaaGreatDoor.A
open Go.RowKit Go.Proofs.YtpjjbaclphoilaaGreatDoorW.PrintWords Go.Proofs.YtpjjbaclphoilaaGreatDoorW.PrintLast Go.Proofs.YtpjjbaclphoilaaGreatDoorW.PrintMore
attribute [local go_sem] max2_int min2_int max_two min_two max_three min_three max_four min_four   -- for this text's walks alone
set_option linter.unusedVariables false
set_option linter.unusedSimpArgs false
set_option maxHeartbeats 8000000
set_option maxRecDepth 100000
def L04_Few.l0:Nat→List (S86)→Int→Option (Bool)
 | 0,_,_=>none
 | k+1,x0,x3=>if x3<(x0.length:Int) then (if x3>40 then (some false) else (if 0≤x3 then (if (((rd_T86 x0 x3).f0).size:Int)>200 then (some false) else (L04_Few.l0 k x0 (wrap64 (x3+1)))) else (none))) else (some true)
def L04_Few.f (k:Nat) (l0:List (S86)):Option (Bool):=L04_Few.l0 k l0 0
theorem L04_Few.calls (k:Nat) (A0:Option Addr) (c0:Nat) (l0:List (S86)) (r:Bool) (w:World) (hr0:Kd.C k86 w A0 l0.length l0) (hc0:l0.length≤c0) (h:L04_Few.f k l0=some r):
  Calls Tryz.prog 39 #[.slice A0 l0.length c0] w fun e w'=>e=.returned (.bool r)∧Drawn0 w w':=by
 have HR0:=aM hr0;have HC0:=aM hc0;clear hr0 hc0;unfold L04_Few.f at h;have H:=h;clear h;have H':=aM H;clear H;go_enter Tryz.func39,Tryz.ntmps39;go_wp2
 go_loopg [3] k (fun kq v3 w'=>∃ (x3_1:Int),v3=.int .i64 x3_1∧Aside0 (L04_Few.l0 kq l0 x3_1=some r)∧Aside0 (kq≤k)∧Drawn0 w w')
 case atStart=>exact ⟨(0),(endS),H',⟨Nat.le_refl _⟩,drA⟩
 case round=>
  clear H';(try clear p2);(try clear c3);(try clear c39);obtain ⟨x3_1,rfl,HA,HK1,⟨m1,rfl⟩⟩:=hrel
  cases gk with
  | zero=>exact absurd HA.out (by simp [L04_Few.l0])
  | succ k1=>
   have H:=HA.out;clear HA;simp only [L04_Few.l0] at H;revert H;refine itR ?L5p ?L5n
   case' L5p=>
    intro c101 H;have c101b0:=dT c101;clear c101;revert H;refine itR ?L6p ?L6n
    case' L6p=>
     intro c102 H;have c102b0:=gtT c102;clear c102;obtain rfl:=sI H;have M1:=trivial
    case' L6n=>
     intro c102 H;have c102b0:=gtF c102;clear c102;replace H:=itN H;obtain ⟨c103,H⟩:=H;have c103b0:=dT c103;clear c103;revert H;refine itR ?L7p ?L7n
     case' L7p=>
      intro c104 H;have c104b0:=gtT c104;have c104b1:decide (200<((rd_T86 l0 x3_1).f0).size)=true:=dT (by omega);clear c104;obtain rfl:=sI H;have M2:=trivial;have M3:=trivial
     case' L7n=>
      intro c104 H;have c104b0:=gtF c104;have c104b1:decide (200<((rd_T86 l0 x3_1).f0).size)=false:=dF (by omega);clear c104;have H':=aM H;clear H;have M2:=trivial;have M4:=trivial
   case' L5n=>
    intro c101 H;have c101b0:=dF c101;clear c101;obtain rfl:=sI H;have M1:=trivial
   all_goals
    case _=>
     first
      | clear M1
        go_wp2;go_ret;exact ⟨endS,drA⟩
      | clear M2
        have p101:0≤(x3_1:Int):=odA;have q101:x3_1<(l0.length:Int):=odA;obtain ⟨ad101,e101,hx101_0,hx101_1,hx101_2⟩:=at_T86 HR0.out x3_1 p101 q101
        cases e101
        replace p101:=eq_true p101;replace q101:=eq_true q101;go_wp2
        first
         | clear M3
           go_ret;exact ⟨endS,drA⟩
         | clear M4
           go_roundg k1
           case measure=>have:=HK1.out;omega
           case rel=>exact ⟨(wrap64 (x3_1+1)),(endS),H',⟨by have:=HK1.out;omega⟩,drA⟩
mutual
def L05_one.j0:Nat→Bool→ByteArray→ByteArray→List (S86)→List (S86)→List ByteArray→Int→Int→Int→Option (Bool)
 | 0,_,_,_,_,_,_,_,_,_=>none
 | k+1,x19,x103000,x103001,x103002,x103003,x103004,x103005,x103006,x103007=>if x19=true then (some false) else (L05_one.l0 k 0 x103000 x103001 x103002 x103003 x103004 x103005 x103006 x103007)
def L05_one.l0:Nat→Int→ByteArray→ByteArray→List (S86)→List (S86)→List ByteArray→Int→Int→Int→Option (Bool)
 | 0,_,_,_,_,_,_,_,_,_=>none
 | k+1,x3,x103000,x103001,x103002,x103003,x103004,x103005,x103006,x103007=>if x3<(x103004.length:Int) then (if 0≤x3 then (if ((rdOf ByteArray.empty x103004 x3).size:Int)>200 then (some false) else (L05_one.l0 k (wrap64 (x3+1)) x103000 x103001 x103002 x103003 x103004 x103005 x103006 x103007)) else (none)) else ((L04_Few.f k x103002).bind fun t104=>(if t104=true then ((L04_Few.f k x103003).bind fun t105=>(some t105)) else (some false)))
end
def L05_one.f (k:Nat) (a0_0:ByteArray) (a0_1:ByteArray) (l0_2:List (S86)) (l0_3:List (S86)) (l0_4:List ByteArray) (a0_5:Int) (a0_6:Int) (a0_7:Int):Option (Bool):=if (a0_0.size:Int)>200 then (L05_one.j0 k true a0_0 a0_1 l0_2 l0_3 l0_4 a0_5 a0_6 a0_7) else (if (a0_1.size:Int)>200 then (L05_one.j0 k true a0_0 a0_1 l0_2 l0_3 l0_4 a0_5 a0_6 a0_7) else (L05_one.j0 k (decide ((l0_4.length:Int)>12)) a0_0 a0_1 l0_2 l0_3 l0_4 a0_5 a0_6 a0_7))
theorem L05_one.calls (k:Nat) (a0_0:ByteArray) (a0_1:ByteArray) (A0_2:Option Addr) (c0_2:Nat) (l0_2:List (S86)) (A0_3:Option Addr) (c0_3:Nat) (l0_3:List (S86)) (A0_4:Option Addr) (c0_4:Nat) (l0_4:List ByteArray) (a0_5:Int) (a0_6:Int) (a0_7:Int) (r:Bool) (w:World) (hr0_2:Kd.C k86 w A0_2 l0_2.length l0_2) (hc0_2:l0_2.length≤c0_2) (hr0_3:Kd.C k86 w A0_3 l0_3.length l0_3) (hc0_3:l0_3.length≤c0_3) (hr0_4:Kd.C Kd.string w A0_4 l0_4.length l0_4) (hc0_4:l0_4.length≤c0_4) (h:L05_one.f k a0_0 a0_1 l0_2 l0_3 l0_4 a0_5 a0_6 a0_7=some r):
  Calls Tryz.prog 10 #[.agg #[.string a0_0,.string a0_1,.slice A0_2 l0_2.length c0_2,.slice A0_3 l0_3.length c0_3,.slice A0_4 l0_4.length c0_4,.int .i64 a0_5,.int .i64 a0_6,.int .i64 a0_7]] w fun e w'=>e=.returned (.bool r)∧Below w.heap.size w w':=by
 have hu30:=Tryz.underlying30;have HR0_2:=aM hr0_2;have HC0_2:=aM hc0_2;clear hr0_2 hc0_2;have HR0_3:=aM hr0_3;have HC0_3:=aM hc0_3;clear hr0_3 hc0_3;have HR0_4:=aM hr0_4;have HC0_4:=aM hc0_4;clear hr0_4 hc0_4;have HB:=aM (Below.refl w.heap.size w);unfold L05_one.f at h;have H:=h;clear h;have HC101:=aM H;clear H;go_enter Tryz.func10,Tryz.ntmps10;go_upto_region 1 with (first|((with_reducible refine gate_dst (N:=1) rfl ?_);(try (refine gate_guard (by rfl) ?_;dsimp only));refine boxA 1 #[.string a0_0,.string a0_1,.slice A0_2 l0_2.length c0_2,.slice A0_3 l0_3.length c0_3,.slice A0_4 l0_4.length c0_4,.int .i64 a0_5,.int .i64 a0_6,.int .i64 a0_7] 30 ?_;intro gb102 hg w102 hbox hb;have n0_:=aM (below_step (bwA) hb);have n1_:=aM (hbox);have n2_:=aM (hgW hg:w.heap.size≤gb102);have n3_:=aM (hgW hg:w.heap.size≤gb102);clear HB;have HB:=n0_;have BK102:=n1_;have GW102:=n2_;have GE102:=n3_;clear n0_ n1_ n2_ n3_;clear hb hbox hg))
 (try simp only [Act.put,List.setIfInBounds_toArray,List.set_cons_zero,List.set_cons_succ])
 go_cut [19] (fun v19 wc=>∃ (kq:Nat) (x19_100:Bool),v19=.bool x19_100∧Aside0 (L05_one.j0 kq x19_100 a0_0 a0_1 l0_2 l0_3 l0_4 a0_5 a0_6 a0_7=some r)∧Aside0 (kq≤k)∧Aside0 (wc.heap[gb102]? = some (.cells #[.string a0_0,.string a0_1,(.slice A0_2 l0_2.length c0_2),(.slice A0_3 l0_3.length c0_3),(.slice A0_4 l0_4.length c0_4),.int .i64 a0_5,.int .i64 a0_6,.int .i64 a0_7] 30 (0,0)))∧Aside0 (Below w.heap.size w wc))
 case first=>
  have H:=HC101.out;clear HC101;revert H;refine itR ?L3p ?L3n
  case' L3p=>
   intro c103 H;have c103b0:=gtT c103;have c103b1:decide (200<a0_0.size)=true:=dT (by omega);clear c103
   (first|rw [c103b0]|(simp only [i64_w,i32_w];rw [c103b0])|skip)
   have H':=aM H;clear H;have M1:=trivial
  case' L3n=>
   intro c103 H;have c103b0:=gtF c103;have c103b1:decide (200<a0_0.size)=false:=dF (by omega);clear c103
   (first|rw [c103b0]|(simp only [i64_w,i32_w];rw [c103b0])|skip)
   revert H;refine itR ?L4p ?L4n
   case' L4p=>
    intro c104 H;have c104b0:=gtT c104;have c104b1:decide (200<a0_1.size)=true:=dT (by omega);clear c104;have H':=aM H;clear H;have M1:=trivial
   case' L4n=>
    intro c104 H;have c104b0:=gtF c104;have c104b1:decide (200<a0_1.size)=false:=dF (by omega);clear c104;have H':=aM H;clear H;have M2:=trivial
  all_goals
   case _=>
    obtain ⟨hcz201_0,hcz201_1,hcz201_2,hcz201_3,hcz201_4,hcz201_5,hcz201_6,hcz201_7⟩:=cel8 BK102.out;obtain ⟨hfz201_0,hfz201_1,hfz201_2,hfz201_3,hfz201_4,hfz201_5,hfz201_6,hfz201_7⟩:=frz8 BK102.out;go_wp2
    go_meet
    first
     | clear M1
       case rel=>exact ⟨_,(true),(endS),H',⟨by first|omega|exact Nat.le_refl _⟩,⟨blkZ⟩,⟨bwA⟩⟩
     | clear M2
       case rel=>exact ⟨_,(decide ((l0_4.length:Int)>12)),(endS),H',⟨by first|omega|exact Nat.le_refl _⟩,⟨blkZ⟩,⟨bwA⟩⟩
 case rest=>
  clear HC101;(try clear c1);(try clear p2);(try clear c10);(try clear hcz201_0);(try clear hcz201_1);(try clear hcz201_2);(try clear hcz201_3);(try clear hcz201_4);(try clear hcz201_5);(try clear hcz201_6);(try clear hcz201_7);(try clear hfz201_0);(try clear hfz201_1);(try clear hfz201_2);(try clear hfz201_3);(try clear hfz201_4);(try clear hfz201_5);(try clear hfz201_6);(try clear hfz201_7);obtain ⟨kq,x19_100,rfl,HA,HJ100,BK102,HB⟩:=hcut
  cases kq with
  | zero=>exact absurd HA.out (by simp [L05_one.j0])
  | succ kj100=>
   have H:=HA.out;clear HA;simp only [L05_one.j0] at H;revert H;refine itR ?L16p ?L16n
   case' L16p=>
    intro c103 H;subst c103;obtain rfl:=sI H;have M14:=trivial
   case' L16n=>
    intro c103 H;replace c103:=Bool.eq_false_iff.mpr c103;subst c103;have H':=aM H;clear H;have M15:=trivial
   all_goals
    case _=>
     go_wp2
     first
      | clear M14
        go_ret;exact ⟨endA,bwA⟩
      | clear M15
        go_loopg [3] kj100 (fun kq v3 w'=>∃ (x3_2:Int),v3=.int .i64 x3_2∧Aside0 (L05_one.l0 kq x3_2 a0_0 a0_1 l0_2 l0_3 l0_4 a0_5 a0_6 a0_7=some r)∧Aside0 (kq≤kj100)∧Aside0 (w'.heap[gb102]? = some (.cells #[.string a0_0,.string a0_1,(.slice A0_2 l0_2.length c0_2),(.slice A0_3 l0_3.length c0_3),(.slice A0_4 l0_4.length c0_4),.int .i64 a0_5,.int .i64 a0_6,.int .i64 a0_7] 30 (0,0)))∧Aside0 (Below w.heap.size w w'))
        case atStart=>exact ⟨(0),(endS),H',⟨Nat.le_refl _⟩,⟨blkZ⟩,⟨bwA⟩⟩
        case round=>
         clear H';(try clear c1);(try clear p2);(try clear c10);(try clear c103);(try clear c103b0);(try clear c103b1);(try clear c104);(try clear c104b0);(try clear c104b1);(try clear hcz201_0);(try clear hcz201_1);(try clear hcz201_2);(try clear hcz201_3);(try clear hcz201_4);(try clear hcz201_5);(try clear hcz201_6);(try clear hcz201_7);(try clear hfz201_0);(try clear hfz201_1);(try clear hfz201_2);(try clear hfz201_3);(try clear hfz201_4);(try clear hfz201_5);(try clear hfz201_6);(try clear hfz201_7);(try clear p2);obtain ⟨x3_2,rfl,HA,HK2,BK102,HB⟩:=hrel
         cases gk with
         | zero=>exact absurd HA.out (by simp [L05_one.l0])
         | succ k2=>
          have H:=HA.out;clear HA;simp only [L05_one.l0] at H;revert H;refine itR ?L11p ?L11n
          case' L11p=>
           intro c201 H;have c201b0:=dT c201;clear c201;replace H:=itN H;obtain ⟨c202,H⟩:=H;have c202b0:=dT c202;clear c202;revert H;refine itR ?L12p ?L12n
           case' L12p=>
            intro c203 H;have c203b0:=gtT c203;have c203b1:decide (200<(rdOf ByteArray.empty l0_4 x3_2).size)=true:=dT (by omega);clear c203;obtain rfl:=sI H;have M5:=trivial;have M6:=trivial
           case' L12n=>
            intro c203 H;have c203b0:=gtF c203;have c203b1:decide (200<(rdOf ByteArray.empty l0_4 x3_2).size)=false:=dF (by omega);clear c203;have H':=aM H;clear H;have M5:=trivial;have M7:=trivial
          case' L11n=>
           intro c201 H;have c201b0:=dF c201;clear c201;replace H:=bnA H;obtain ⟨t104,A202,H⟩:=H;revert H;refine itR ?L13p ?L13n
           case' L13p=>
            intro c203 H;subst c203;replace H:=bnA H;obtain ⟨t105,A204,H⟩:=H;obtain rfl:=sI H;have M8:=trivial;have M9:=trivial
           case' L13n=>
            intro c203 H;replace c203:=Bool.eq_false_iff.mpr c203;subst c203;obtain rfl:=sI H;have M8:=trivial;have M10:=trivial
          all_goals
           case _=>
            obtain ⟨hcz301_0,hcz301_1,hcz301_2,hcz301_3,hcz301_4,hcz301_5,hcz301_6,hcz301_7⟩:=cel8 BK102.out;obtain ⟨hfz301_0,hfz301_1,hfz301_2,hfz301_3,hfz301_4,hfz301_5,hfz301_6,hfz301_7⟩:=frz8 BK102.out
            first
             | clear M5
               have p103:0≤(x3_2:Int):=odA;have q103:x3_2<(l0_4.length:Int):=odA;obtain ⟨ad103,e103,hx103_0⟩:=Kd.at_string HR0_4.out x3_2 p103 q103
               cases e103
               replace hx103_0:=crA hx103_0;replace p103:=eq_true p103;replace q103:=eq_true q103;go_wp2
               first
                | clear M6
                  go_ret;exact ⟨endA,bwA⟩
                | clear M7
                  go_roundg k2
                  case measure=>have:=HJ100.out;have:=HK2.out;omega
                  case rel=>exact ⟨(wrap64 (x3_2+1)),(endS),H',⟨by have:=HJ100.out;have:=HK2.out;omega⟩,⟨blkZ⟩,⟨bwA⟩⟩
             | clear M8
               go_wp2_with (first|((with_reducible refine gate_callee (f:=39) rfl ?_);refine goesA (some 36) Tryz.func39 #[.slice A0_2 l0_2.length c0_2] ?_;(with_reducible refine (L04_Few.calls _ _ _ _ _ _ ?side1 ?side2 A202.out).mono ?_);(case side1=>exact Kd.C_below HR0_2.out (bwA));(case side2=>exact HC0_2.out);rintro e w' ⟨rfl,⟨nd,rfl⟩⟩;refine ⟨_,rfl,?_⟩;apply stopA;(case other=>exact trivial)))
               case _=>
                first
                 | clear M9
                   (try go_wp2_with (first|(go_at_call 39;(with_reducible refine (L04_Few.calls _ _ _ _ _ _ ?side1 ?side2 A204.out).mono ?_);(case side1=>repeat (first|exact (Kd.C_below HR0_3.out (bwA))|(with_reducible refine Kd.C_alloc ?_ _)|(with_reducible refine Kd.C_drewN ?_ _)|(with_reducible refine Kd.C_drew ?_)));(case side2=>exact HC0_3.out);rintro e w' ⟨rfl,⟨nd,rfl⟩⟩)));go_ret;exact ⟨endA,bwA⟩
                 | clear M10
                   (try go_wp2_with (fail))
                   go_ret;exact ⟨endA,bwA⟩
def L05_Few.l0:Nat→List (S30)→Int→Option (Bool)
 | 0,_,_=>none
 | k+1,x0,x3=>if x3<(x0.length:Int) then (if x3>25 then (some false) else (if 0≤x3 then ((L05_one.f k ((rd_T30 x0 x3).f0) ((rd_T30 x0 x3).f1) ((rd_T30 x0 x3).f2) ((rd_T30 x0 x3).f3) ((rd_T30 x0 x3).f4) ((rd_T30 x0 x3).f5.f0) ((rd_T30 x0 x3).f5.f1) ((rd_T30 x0 x3).f5.f2)).bind fun t107=>(if t107=true then (L05_Few.l0 k x0 (wrap64 (x3+1))) else (some false))) else (none))) else (some true)
def L05_Few.f (k:Nat) (l0:List (S30)):Option (Bool):=L05_Few.l0 k l0 0
theorem L05_Few.calls (k:Nat) (A0:Option Addr) (c0:Nat) (l0:List (S30)) (r:Bool) (w:World) (hr0:Kd.C k30 w A0 l0.length l0) (hc0:l0.length≤c0) (h:L05_Few.f k l0=some r):
  Calls Tryz.prog 8 #[.slice A0 l0.length c0] w fun e w'=>e=.returned (.bool r)∧Below w.heap.size w w':=by
 have hu30:=Tryz.underlying30;have HR0:=aM hr0;have HC0:=aM hc0;clear hr0 hc0;have HB:=aM (Below.refl w.heap.size w);unfold L05_Few.f at h;have H:=h;clear h;have H':=aM H;clear H;go_enter Tryz.func8,Tryz.ntmps8;go_wp2
 go_loopg [3] k (fun kq v3 w'=>∃ (x3_1:Int),v3=.int .i64 x3_1∧Aside0 (L05_Few.l0 kq l0 x3_1=some r)∧Aside0 (kq≤k)∧Aside0 (Below w.heap.size w w'))
 case atStart=>exact ⟨(0),(endS),H',⟨Nat.le_refl _⟩,⟨bwA⟩⟩
 case round=>
  clear H';(try clear p2);(try clear c8);obtain ⟨x3_1,rfl,HA,HK1,HB⟩:=hrel
  cases gk with
  | zero=>exact absurd HA.out (by simp [L05_Few.l0])
  | succ k1=>
   have H:=HA.out;clear HA;simp only [L05_Few.l0] at H;revert H;refine itR ?L5p ?L5n
   case' L5p=>
    intro c101 H;have c101b0:=dT c101;clear c101;revert H;refine itR ?L6p ?L6n
    case' L6p=>
     intro c102 H;have c102b0:=gtT c102;clear c102;obtain rfl:=sI H;have M1:=trivial
    case' L6n=>
     intro c102 H;have c102b0:=gtF c102;clear c102;replace H:=itN H;obtain ⟨c103,H⟩:=H;have c103b0:=dT c103;clear c103;replace H:=bnA H;obtain ⟨t107,A104,H⟩:=H;revert H;refine itR ?L7p ?L7n
     case' L7p=>
      intro c105 H;subst c105;have H':=aM H;clear H;have M2:=trivial;have M3:=trivial
     case' L7n=>
      intro c105 H;replace c105:=Bool.eq_false_iff.mpr c105;subst c105;obtain rfl:=sI H;have M2:=trivial;have M4:=trivial
   case' L5n=>
    intro c101 H;have c101b0:=dF c101;clear c101;obtain rfl:=sI H;have M1:=trivial
   all_goals
    case _=>
     first
      | clear M1
        go_wp2;go_ret;exact ⟨endA,bwA⟩
      | clear M2
        have p106:0≤(x3_1:Int):=odA;have q106:x3_1<(l0.length:Int):=odA;obtain ⟨ad106,A106_2,c106_2,A106_3,c106_3,A106_4,c106_4,e106,hx106_0,hx106_1,hx106_2,hx106_3,hx106_4,hx106_5,hx106_6,hx106_7,hl106_2,hi106_2,hl106_3,hi106_3,hl106_4,hi106_4⟩:=at_T30 HR0.out x3_1 p106 q106
        cases e106
        replace hx106_0:=crA hx106_0;replace hx106_1:=crA hx106_1;replace hx106_2:=crA hx106_2;replace hx106_3:=crA hx106_3;replace hx106_4:=crA hx106_4;replace hx106_5:=crA hx106_5;replace hx106_6:=crA hx106_6;replace hx106_7:=crA hx106_7;have HR106_2:=aM hi106_2;have HC106_2:=aM hl106_2;clear hi106_2 hl106_2;have HR106_3:=aM hi106_3;have HC106_3:=aM hl106_3;clear hi106_3 hl106_3;have HR106_4:=aM hi106_4;have HC106_4:=aM hl106_4;clear hi106_4 hl106_4;replace p106:=eq_true p106;replace q106:=eq_true q106;try go_wp2_with (first|(go_at_call 10;(with_reducible refine (L05_one.calls _ _ _ _ _ _ _ _ _ _ _ _ _ _ _ _ _ ?side1 ?side2 ?side3 ?side4 ?side5 ?side6 A104.out).mono ?_);(case side1=>exact Kd.C_below HR106_2.out (bwA));(case side2=>exact HC106_2.out);(case side3=>exact Kd.C_below HR106_3.out (bwA));(case side4=>exact HC106_3.out);(case side5=>exact Kd.C_below HR106_4.out (bwA));(case side6=>exact HC106_4.out);rintro e w201 ⟨rfl,hb⟩;replace HB:=aM (below_step (bwA) hb);(try clear hb)))
        first
         | clear M3
           go_roundg k1
           case measure=>have:=HK1.out;omega
           case rel=>exact ⟨(wrap64 (x3_1+1)),(endS),H',⟨by have:=HK1.out;omega⟩,⟨bwA⟩⟩
         | clear M4
           go_ret;exact ⟨endA,bwA⟩
def name_between.f (a0:Int) (a1:Int) (a2:Int):Option (Bool):=if a0≥a1 then (some (decide (a0≤a2))) else (some false)
theorem name_between.calls (a0:Int) (a1:Int) (a2:Int) (r:Bool) (w:World) (h:name_between.f a0 a1 a2=some r):
  Calls Tryz.prog 161 #[.int .i32 a0,.int .i32 a1,.int .i32 a2] w fun e w'=>e=.returned (.bool r)∧Drawn0 w w':=by
 unfold name_between.f at h;have H:=h;clear h;revert H;refine itR ?L1p ?L1n
 case' L1p=>
  intro c4 H;have c4b0:=geT c4;clear c4;obtain rfl:=sI H
 case' L1n=>
  intro c4 H;have c4b0:=geF c4;clear c4;obtain rfl:=sI H
 all_goals
  case _=>
   go_enter Tryz.func161,Tryz.ntmps161;go_wp2;go_ret;exact ⟨endS,drA⟩
def name_Small.f (a0:Int):Option (Int):=(name_between.f a0 65 90).bind fun t108=>(if t108=true then (some (wrap32 (a0+32))) else ((name_between.f a0 192 222).bind fun t109=>(if t109=true then (if a0=215 then ((name_between.f a0 913 937).bind fun t110=>(if t110=true then (if a0=930 then ((name_between.f a0 1040 1071).bind fun t111=>(if t111=true then (some (wrap32 (a0+32))) else (some a0))) else (some (wrap32 (a0+32)))) else ((name_between.f a0 1040 1071).bind fun t112=>(if t112=true then (some (wrap32 (a0+32))) else (some a0))))) else (some (wrap32 (a0+32)))) else ((name_between.f a0 913 937).bind fun t113=>(if t113=true then (if a0=930 then ((name_between.f a0 1040 1071).bind fun t114=>(if t114=true then (some (wrap32 (a0+32))) else (some a0))) else (some (wrap32 (a0+32)))) else ((name_between.f a0 1040 1071).bind fun t115=>(if t115=true then (some (wrap32 (a0+32))) else (some a0))))))))
theorem name_Small.calls (a0:Int) (r:Int) (w:World) (h:name_Small.f a0=some r):
  Calls Tryz.prog 143 #[.int .i32 a0] w fun e w'=>e=.returned (.int .i32 r)∧Drawn0 w w':=by
 unfold name_Small.f at h;have H:=h;clear h;replace H:=bnA H;obtain ⟨t108,A2,H⟩:=H;revert H;refine itR ?L15p ?L15n
 case' L15p=>
  intro c3 H;subst c3;obtain rfl:=sI H;have M1:=trivial
 case' L15n=>
  intro c3 H;replace c3:=Bool.eq_false_iff.mpr c3;subst c3;replace H:=bnA H;obtain ⟨t109,A4,H⟩:=H;revert H;refine itR ?L16p ?L16n
  case' L16p=>
   intro c5 H;subst c5;revert H;refine itQ ?L17p ?L17n
   case' L17p=>
    rintro ⟨c6b0,c6b1⟩ H;replace H:=bnA H;obtain ⟨t110,A7,H⟩:=H;revert H;refine itR ?L18p ?L18n
    case' L18p=>
     intro c8 H;subst c8;revert H;refine itQ ?L19p ?L19n
     case' L19p=>
      rintro ⟨c9b0,c9b1⟩ H;replace H:=bnA H;obtain ⟨t111,A10,H⟩:=H;revert H;refine itR ?L20p ?L20n
      case' L20p=>
       intro c11 H;subst c11;obtain rfl:=sI H;have M2:=trivial;have M3:=trivial;have M4:=trivial;have M5:=trivial;have M6:=trivial
      case' L20n=>
       intro c11 H;replace c11:=Bool.eq_false_iff.mpr c11;subst c11;obtain rfl:=sI H;have M2:=trivial;have M3:=trivial;have M4:=trivial;have M5:=trivial;have M6:=trivial
     case' L19n=>
      rintro ⟨c9b0,c9b1⟩ c9 H;obtain rfl:=sI H;have M2:=trivial;have M3:=trivial;have M4:=trivial;have M8:=trivial
    case' L18n=>
     intro c8 H;replace c8:=Bool.eq_false_iff.mpr c8;subst c8;replace H:=bnA H;obtain ⟨t112,A9,H⟩:=H;revert H;refine itR ?L21p ?L21n
     case' L21p=>
      intro c10 H;subst c10;obtain rfl:=sI H;have M2:=trivial;have M3:=trivial;have M4:=trivial;have M5:=trivial;have M7:=trivial
     case' L21n=>
      intro c10 H;replace c10:=Bool.eq_false_iff.mpr c10;subst c10;obtain rfl:=sI H;have M2:=trivial;have M3:=trivial;have M4:=trivial;have M5:=trivial;have M7:=trivial
   case' L17n=>
    rintro ⟨c6b0,c6b1⟩ c6 H;obtain rfl:=sI H;have M2:=trivial;have M14:=trivial
  case' L16n=>
   intro c5 H;replace c5:=Bool.eq_false_iff.mpr c5;subst c5;replace H:=bnA H;obtain ⟨t113,A6,H⟩:=H;revert H;refine itR ?L22p ?L22n
   case' L22p=>
    intro c7 H;subst c7;revert H;refine itQ ?L23p ?L23n
    case' L23p=>
     rintro ⟨c8b0,c8b1⟩ H;replace H:=bnA H;obtain ⟨t114,A9,H⟩:=H;revert H;refine itR ?L24p ?L24n
     case' L24p=>
      intro c10 H;subst c10;obtain rfl:=sI H;have M2:=trivial;have M3:=trivial;have M9:=trivial;have M10:=trivial;have M11:=trivial
     case' L24n=>
      intro c10 H;replace c10:=Bool.eq_false_iff.mpr c10;subst c10;obtain rfl:=sI H;have M2:=trivial;have M3:=trivial;have M9:=trivial;have M10:=trivial;have M11:=trivial
    case' L23n=>
     rintro ⟨c8b0,c8b1⟩ c8 H;obtain rfl:=sI H;have M2:=trivial;have M3:=trivial;have M9:=trivial;have M13:=trivial
   case' L22n=>
    intro c7 H;replace c7:=Bool.eq_false_iff.mpr c7;subst c7;replace H:=bnA H;obtain ⟨t115,A8,H⟩:=H;revert H;refine itR ?L25p ?L25n
    case' L25p=>
     intro c9 H;subst c9;obtain rfl:=sI H;have M2:=trivial;have M3:=trivial;have M9:=trivial;have M10:=trivial;have M12:=trivial
    case' L25n=>
     intro c9 H;replace c9:=Bool.eq_false_iff.mpr c9;subst c9;obtain rfl:=sI H;have M2:=trivial;have M3:=trivial;have M9:=trivial;have M10:=trivial;have M12:=trivial
 all_goals
  case _=>
   go_enter Tryz.func143,Tryz.ntmps143;go_wp2_with (first|((with_reducible refine gate_callee (f:=161) rfl ?_);refine goesA (some 4) Tryz.func161 #[.int .i32 a0,.int .i32 65,.int .i32 90] ?_;(with_reducible refine (name_between.calls _ _ _ _ _ A2.out).mono ?_);rintro e w' ⟨rfl,⟨nd,rfl⟩⟩;refine ⟨_,rfl,?_⟩;apply stopA;(case other=>exact trivial)))
   case _=>
    first
     | clear M1
       (try go_wp2_with (fail))
       go_ret;exact ⟨endS,drA⟩
     | clear M2
       go_wp2_with (first|(go_at_call 161;(with_reducible refine (name_between.calls _ _ _ _ _ A4.out).mono ?_);rintro e w' ⟨rfl,⟨nd,rfl⟩⟩;apply stopA;(case other=>exact trivial)))
       case _=>
        first
         | clear M3
           go_wp2_with (first|(go_at_call 161;apply stopA;(case other=>exact trivial)))
           case _=>
            first
             | clear M4
               (with_reducible refine (name_between.calls _ _ _ _ _ A7.out).mono ?_)
               rintro e w' ⟨rfl,⟨nd,rfl⟩⟩
               first
                | clear M5
                  go_wp2_with (first|(go_at_call 161;apply stopA;(case other=>exact trivial)))
                  case _=>
                   first
                    | clear M6
                      (with_reducible refine (name_between.calls _ _ _ _ _ A10.out).mono ?_)
                      rintro e w' ⟨rfl,⟨nd,rfl⟩⟩
                      (try go_wp2_with (fail))
                      go_ret;exact ⟨endS,drA⟩
                    | clear M7
                      (with_reducible refine (name_between.calls _ _ _ _ _ A9.out).mono ?_)
                      rintro e w' ⟨rfl,⟨nd,rfl⟩⟩
                      (try go_wp2_with (fail))
                      go_ret;exact ⟨endS,drA⟩
                | clear M8
                  (try go_wp2_with (fail))
                  go_ret;exact ⟨endS,drA⟩
             | clear M9
               (with_reducible refine (name_between.calls _ _ _ _ _ A6.out).mono ?_)
               rintro e w' ⟨rfl,⟨nd,rfl⟩⟩
               first
                | clear M10
                  go_wp2_with (first|(go_at_call 161;apply stopA;(case other=>exact trivial)))
                  case _=>
                   first
                    | clear M11
                      (with_reducible refine (name_between.calls _ _ _ _ _ A9.out).mono ?_)
                      rintro e w' ⟨rfl,⟨nd,rfl⟩⟩
                      (try go_wp2_with (fail))
                      go_ret;exact ⟨endS,drA⟩
                    | clear M12
                      (with_reducible refine (name_between.calls _ _ _ _ _ A8.out).mono ?_)
                      rintro e w' ⟨rfl,⟨nd,rfl⟩⟩
                      (try go_wp2_with (fail))
                      go_ret;exact ⟨endS,drA⟩
                | clear M13
                  (try go_wp2_with (fail))
                  go_ret;exact ⟨endS,drA⟩
         | clear M14
           (try go_wp2_with (fail))
           go_ret;exact ⟨endS,drA⟩
theorem name_Fold.info:(Tryz.prog.info? 21).map (fun i=>(i.zero,i.size,i.bytes))=some (some (.int .i32 0),1,4):=by kernel_rfl
def name_Fold.go (s:ByteArray):Nat→Nat→List Int→Option (List Int)
 | 0,_,_=>none
 | f+1,pos,acc=>if pos<s.size then (name_Small.f ((Utf8.decode s pos).1:Int)).bind fun c=>name_Fold.go s f (pos+(Utf8.decode s pos).2) (acc++[c]) else some acc
def name_Fold.f (a0:ByteArray):Option ByteArray:=if a0.size≤1099511627776 then (if Lib.validD a0.data.toList=true then (name_Fold.go a0 (a0.size+1) 0 []).bind fun l=>some (runesBytes l) else some a0) else none
theorem name_Fold.calls (a0:ByteArray) (r:ByteArray) (w:World) (hT:Tabs w) (h:name_Fold.f a0=some r):
  Calls Tryz.prog 104 #[.string a0] w fun e w'=>e=.returned (.string r)∧Below w.heap.size w w':=by
 unfold name_Fold.f at h
 split at h
 ·rename_i hs
  have cV:=Tryz.utf8_ValidString a0 w (by omega) hT.u8
  by_cases hv:Lib.validD a0.data.toList=true
  ·rw [if_pos hv] at h
   obtain ⟨l,hl,h⟩:=Option.bind_eq_some_iff.1 h;obtain rfl:=sI h;have H:=Lib.hid hl;rw [hv] at cV;clear h hv hl;go_enter Tryz.func104,Tryz.ntmps104;go_wp2_with (go_at_call 105;refine cV.mono ?_;rintro e w1 ⟨rfl,hb1⟩)
   go_loopw [3] (fun v3 wr=>∃ (pos fuel:Nat) (acc:List Int),wr.heap[w1.heap.size]? = some (.stringIter a0 pos)∧Kd.R (Kd.int .i32) 21 wr w.heap.size (fun k=>k≠w1.heap.size) v3 acc∧Below w.heap.size w wr∧Hid (name_Fold.go a0 fuel pos acc=some l)∧acc.length≤pos) (fun _ wr=>a0.size-wr.iterPos w1.heap.size)
   case atStart=>exact ⟨0,_,[],World.iter_heap w1 a0 0,Kd.R_nil _ _ _ _ _,hb1.alloc hb1.size _,H,by simp⟩
   case round=>
    obtain ⟨pos,fuel,acc,hit,hR,hbw,HG,hal⟩:=hrel;clear H;have hsz:w1.heap.size<wr.heap.size:=(Array.getElem?_eq_some_iff.1 hit).1;have hsw:w.heap.size≤w1.heap.size:=hb1.size
    cases fuel with
    | zero=>exact absurd HG.out (by simp [name_Fold.go])
    | succ f=>
     have hgo:=HG.out;clear HG;unfold name_Fold.go at hgo
     by_cases hp:pos<a0.size
     ·rw [if_pos hp] at hgo
      have hnx:∀ ty,(Instr.next (.pointer (some ⟨w1.heap.size,0,none⟩)) true ty).run Tryz.prog wr=_:=fun ty=>Lib.run_next_any_at wr w1.heap.size a0 pos ty hit hp
      have Hwd:=Lib.hid (Lib.width_pos a0 pos);have Hd1:=Lib.hid (decode_le a0 pos);have hit2:=Lib.iterAt_heap wr w1.heap.size a0 pos (pos+(Utf8.decode a0 pos).2) hit;have hbw2:=Lib.below_iterAt hbw (k:=w1.heap.size) hsw a0 (pos+(Utf8.decode a0 pos).2);have hR2:Kd.R (Kd.int .i32) 21 (wr.iterAt w1.heap.size a0 (pos+(Utf8.decode a0 pos).2)) w.heap.size (fun k=>k≠w1.heap.size) u3 acc:=Kd.R_move hR (fun k hk=>Lib.iterAt_other wr w1.heap.size k a0 _ hk);obtain ⟨c,hc,hgo⟩:=Option.bind_eq_some_iff.1 hgo;have cS:=fun W=>name_Small.calls ((Utf8.decode a0 pos).1:Int) c W hc
      generalize hq:(((Utf8.decode a0 pos).1:Nat):Int)=q at cS hnx
      have HE:=Lib.hid hgo;have hz2:w1.heap.size<(wr.iterAt w1.heap.size a0 (pos+(Utf8.decode a0 pos).2)).heap.size:=by rw [Lib.iterAt_size];exact hsz
      have Hit:=Lib.hid hit;have HL:=Lib.hid (show (acc.length+1) * 4≤140737488355328 by omega);have HA:=Lib.hid hal;clear hgo hc hq hit hbw hR hal;go_wp2_with (first|(go_at_call 143;refine (cS _).mono ?_;rintro e w2 ⟨rfl,⟨nd,rfl⟩⟩)|((with_reducible refine gate_builtin (b:=.append) (xs:=#[.tmp 15,.tmp 18]) rfl ?_);at_builtin;refine Kd.R_append (Kd.int .i32) (w0:=w) w.heap.size rfl (.tmp 15) (.tmp 18) 161 21 (.int .i32 0) 4 rfl Tryz.underlying161 name_Fold.info rfl (by decide) (by omega) u3 acc c [.int .i32 c] (fun k=>k≠w1.heap.size) (fun _=>False) rfl (by first|(go_simp;done)|(go_simp;rfl)) rfl (fun _ hk=>hk.elim) ?aF ?aO ?aB ?aS HL.out ?_;(case aF=>(intro k hk he;rw [he] at hk;exact absurd (Nat.lt_of_lt_of_le hz2 hk) (Nat.lt_irrefl _)));(case aB=>(repeat (first|exact hbw2|apply pw_below_drewN)));(case aO=>((with_reducible repeat (first|apply Kd.R_alloc|apply Kd.R_drewN|apply Kd.R_drew));exact hR2));(case aS=>exact hbw2.size);intro v4 w4 ho hb hg hat;have hit3:=blk_grown (show ((wr.iterAt w1.heap.size a0 (pos+(Utf8.decode a0 pos).2)).drewN nd).heap[w1.heap.size]? = _ from hit2) hg (fun e=>hR2.1 _ e.symm rfl)))
      go_roundw
      case rel=>
       refine ⟨_,f,acc++[c],hit3,ho,hb,HE,?_⟩;have:=HA.out;have:=Hwd.out;rw [List.length_append]
       show acc.length+1≤_
       omega
      case measure=>
       have hwd:=Hwd.out;have hd1:=Hd1.out;simp only [World.iterPos,hit3,Hit.out]
       omega
     ·rw [if_neg hp] at hgo
      obtain rfl:=sI hgo;clear hal;have hnx:∀ ty,(Instr.next (.pointer (some ⟨w1.heap.size,0,none⟩)) true ty).run Tryz.prog wr=_:=fun ty=>Lib.run_next_end_at wr w1.heap.size a0 pos ty hit hp
      have hcv:=own_runes (P:=Tryz.prog) Tryz.underlying161 Tryz.underlying21 Tryz.underlying9 (Kd.own_of_R hR);go_wp2;go_ret;exact ⟨rfl,hbw⟩
  ·rw [if_neg hv] at h
   obtain rfl:=sI h;rw [Bool.eq_false_iff.2 hv] at cV;clear hv;go_enter Tryz.func104,Tryz.ntmps104;go_wp2_with (go_at_call 105;refine cV.mono ?_;rintro e w1 ⟨rfl,hb1⟩);go_ret;exact ⟨rfl,hb1⟩
 ·cases h
def cmp_isNaN_rune.f (a0:Int):Option (Bool):=some (a0 != a0)
theorem cmp_isNaN_rune.calls (a0:Int) (r:Bool) (w:World) (h:cmp_isNaN_rune.f a0=some r):
  Calls Tryz.prog 167 #[.int .i32 a0] w fun e w'=>e=.returned (.bool r)∧Drawn0 w w':=by
 unfold cmp_isNaN_rune.f at h;have H:=h;clear h;obtain rfl:=sI H;go_enter Tryz.func167,Tryz.ntmps167;go_wp2;go_ret;exact ⟨endS,drA⟩
def cmp_Compare_rune.f (a0:Int) (a1:Int):Option (Int):=(cmp_isNaN_rune.f a0).bind fun t116=>((cmp_isNaN_rune.f a1).bind fun t117=>(if t116=true then (if t117=true then (some 0) else (some (-1))) else (if t117=true then (some 1) else (if a0<a1 then (some (-1)) else (if a0>a1 then (some 1) else (some 0))))))
theorem cmp_Compare_rune.calls (a0:Int) (a1:Int) (r:Int) (w:World) (h:cmp_Compare_rune.f a0 a1=some r):
  Calls Tryz.prog 146 #[.int .i32 a0,.int .i32 a1] w fun e w'=>e=.returned (.int .i64 r)∧Drawn0 w w':=by
 unfold cmp_Compare_rune.f at h;have H:=h;clear h;replace H:=bnA H;obtain ⟨t116,A3,H⟩:=H;replace H:=bnA H;obtain ⟨t117,A4,H⟩:=H;revert H;refine itR ?L1p ?L1n
 case' L1p=>
  intro c5 H;subst c5;revert H;refine itR ?L2p ?L2n
  case' L2p=>
   intro c6 H;subst c6;obtain rfl:=sI H
  case' L2n=>
   intro c6 H;replace c6:=Bool.eq_false_iff.mpr c6;subst c6;obtain rfl:=sI H
 case' L1n=>
  intro c5 H;replace c5:=Bool.eq_false_iff.mpr c5;subst c5;revert H;refine itR ?L3p ?L3n
  case' L3p=>
   intro c6 H;subst c6;obtain rfl:=sI H
  case' L3n=>
   intro c6 H;replace c6:=Bool.eq_false_iff.mpr c6;subst c6;revert H;refine itR ?L4p ?L4n
   case' L4p=>
    intro c7 H;have c7b0:=dT c7;clear c7;obtain rfl:=sI H
   case' L4n=>
    intro c7 H;have c7b0:=dF c7;clear c7;revert H;refine itR ?L5p ?L5n
    case' L5p=>
     intro c8 H;have c8b0:=gtT c8;clear c8;obtain rfl:=sI H
    case' L5n=>
     intro c8 H;have c8b0:=gtF c8;clear c8;obtain rfl:=sI H
 all_goals
  case _=>
   go_enter Tryz.func146,Tryz.ntmps146;(try go_wp2_with (first|((with_reducible refine gate_callee (f:=167) rfl ?_);refine goesA (some 8) Tryz.func167 #[.int .i32 a0] ?_;(with_reducible refine (cmp_isNaN_rune.calls _ _ _ A3.out).mono ?_);rintro e w' ⟨rfl,⟨nd,rfl⟩⟩;refine ⟨_,rfl,?_⟩)|((with_reducible refine gate_callee (f:=167) rfl ?_);refine goesA (some 10) Tryz.func167 #[.int .i32 a1] ?_;(with_reducible refine (cmp_isNaN_rune.calls _ _ _ A4.out).mono ?_);rintro e w' ⟨rfl,⟨nd,rfl⟩⟩;refine ⟨_,rfl,?_⟩)));go_ret;exact ⟨endS,drA⟩
def slices_Compare_rune_rune.l0:Nat→List Int→List Int→List Int→Int→Int→Option (Int)
 | 0,_,_,_,_,_=>none
 | k+1,x0,x1,x9,x10,x11=>if x11<x10 then (if 0≤x11 then (if x11<(x9.length:Int) then (if x11≥(x1.length:Int) then (some 1) else (if x11<(x1.length:Int) then ((cmp_Compare_rune.f (rd x9 x11) (rd x1 x11)).bind fun t120=>(if t120=0 then (slices_Compare_rune_rune.l0 k x0 x1 x9 x10 (wrap64 (x11+1))) else (some t120))) else (none))) else (none)) else (none)) else (if (x0.length:Int)<(x1.length:Int) then (some (-1)) else (some 0))
def slices_Compare_rune_rune.f (k:Nat) (l0:List Int) (l1:List Int):Option (Int):=slices_Compare_rune_rune.l0 k l0 l1 l0 (l0.length:Int) 0
theorem slices_Compare_rune_rune.calls (k:Nat) (A0:Option Addr) (c0:Nat) (l0:List Int) (A1:Option Addr) (c1:Nat) (l1:List Int) (r:Int) (w:World) (hr0:Kd.C (Kd.int .i32) w A0 l0.length l0) (hc0:l0.length≤c0) (hr1:Kd.C (Kd.int .i32) w A1 l1.length l1) (hc1:l1.length≤c1) (h:slices_Compare_rune_rune.f k l0 l1=some r):
  Calls Tryz.prog 107 #[.slice A0 l0.length c0,.slice A1 l1.length c1] w fun e w'=>e=.returned (.int .i64 r)∧Drawn0 w w':=by
 have HR0:=aM hr0;have HC0:=aM hc0;clear hr0 hc0;have HR1:=aM hr1;have HC1:=aM hc1;clear hr1 hc1;unfold slices_Compare_rune_rune.f at h;have H:=h;clear h;have H':=aM H;clear H;go_enter Tryz.func107,Tryz.ntmps107;go_wp2
 go_loopg [11] k (fun kq v11 w'=>∃ (x11_1:Int),v11=.int .i64 x11_1∧Aside0 (slices_Compare_rune_rune.l0 kq l0 l1 l0 (l0.length:Int) x11_1=some r)∧Aside0 (kq≤k)∧Drawn0 w w')
 case atStart=>exact ⟨(0),(endS),H',⟨Nat.le_refl _⟩,drA⟩
 case round=>
  clear H';(try clear c1);(try clear p2);(try clear c10);obtain ⟨x11_1,rfl,HA,HK1,⟨m1,rfl⟩⟩:=hrel
  cases gk with
  | zero=>exact absurd HA.out (by simp [slices_Compare_rune_rune.l0])
  | succ k1=>
   have H:=HA.out;clear HA;simp only [slices_Compare_rune_rune.l0] at H;revert H;refine itR ?L7p ?L7n
   case' L7p=>
    intro c101 H;have c101b0:=dT c101;clear c101;replace H:=itN H;obtain ⟨c102,H⟩:=H;have c102b0:=dT c102;clear c102;replace H:=itN H;obtain ⟨c103,H⟩:=H;have c103b0:=dT c103;clear c103;revert H;refine itR ?L8p ?L8n
    case' L8p=>
     intro c104 H;have c104b0:=geT c104;clear c104;obtain rfl:=sI H;have M1:=trivial;have M2:=trivial
    case' L8n=>
     intro c104 H;have c104b0:=geF c104;clear c104;replace H:=itN H;obtain ⟨c105,H⟩:=H;have c105b0:=dT c105;clear c105;replace H:=bnA H;obtain ⟨t120,A106,H⟩:=H;revert H;refine itQ ?L9p ?L9n
     case' L9p=>
      rintro ⟨c107b0,c107b1⟩ H;have H':=aM H;clear H;have M1:=trivial;have M3:=trivial;have M4:=trivial
     case' L9n=>
      rintro ⟨c107b0,c107b1⟩ c107 H;obtain rfl:=sI H;have M1:=trivial;have M3:=trivial;have M5:=trivial
   case' L7n=>
    intro c101 H;have c101b0:=dF c101;clear c101;revert H;refine itR ?L10p ?L10n
    case' L10p=>
     intro c102 H;have c102b0:=dT c102;have c102b1:decide (l0.length<l1.length)=true:=dT (Int.ofNat_lt.mp c102);clear c102;obtain rfl:=sI H;have M6:=trivial
    case' L10n=>
     intro c102 H;have c102b0:=dF c102;have c102b1:decide (l0.length<l1.length)=false:=dF (fun h=>c102 (Int.ofNat_lt.mpr h));clear c102;obtain rfl:=sI H;have M6:=trivial
   all_goals
    case _=>
     first
      | clear M1
        have p118:0≤(x11_1:Int):=odA;have q118:x11_1<(l0.length:Int):=odA;obtain ⟨ad118,e118,hx118_0⟩:=Kd.at_int HR0.out x11_1 p118 q118
        cases e118
        replace p118:=eq_true p118;replace q118:=eq_true q118
        first
         | clear M2
           go_wp2;go_ret;exact ⟨endS,drA⟩
         | clear M3
           have p119:0≤(x11_1:Int):=odA;have q119:x11_1<(l1.length:Int):=odA;obtain ⟨ad119,e119,hx119_0⟩:=Kd.at_int HR1.out x11_1 p119 q119
           cases e119
           replace p119:=eq_true p119;replace q119:=eq_true q119;try go_wp2_with (first|((with_reducible refine gate_callee (f:=146) rfl ?_);refine goesA (some 26) Tryz.func146 #[.int .i32 (rd l0 x11_1),.int .i32 (rd l1 x11_1)] ?_;(with_reducible refine (cmp_Compare_rune.calls _ _ _ _ A106.out).mono ?_);rintro e w' ⟨rfl,⟨nd,rfl⟩⟩;refine ⟨_,rfl,?_⟩))
           first
            | clear M4
              go_roundg k1
              case measure=>have:=HK1.out;omega
              case rel=>exact ⟨(wrap64 (x11_1+1)),(endS),H',⟨by have:=HK1.out;omega⟩,drA⟩
            | clear M5
              go_ret;exact ⟨endS,drA⟩
      | clear M6
        go_wp2;go_ret;exact ⟨endS,drA⟩
def name_Compare.f (k:Nat) (a0:ByteArray) (a1:ByteArray):Option Int:=(name_Fold.f a0).bind fun x=>(name_Fold.f a1).bind fun y=>if x.size≤1099511627776 then (if y.size≤1099511627776 then (if Lib.validD x.data.toList=true then (if Lib.validD y.data.toList=true then slices_Compare_rune_rune.f k (runesI x x.size 0) (runesI y y.size 0) else none) else none) else none) else none
theorem name_Compare.calls (k:Nat) (a0:ByteArray) (a1:ByteArray) (r:Int) (w:World) (hT:Tabs w) (h:name_Compare.f k a0 a1=some r):
  Calls Tryz.prog 59 #[.string a0,.string a1] w fun e w'=>e=.returned (.int .i64 r)∧Below w.heap.size w w':=by
 unfold name_Compare.f at h;obtain ⟨x,hx,h⟩:=Option.bind_eq_some_iff.1 h;obtain ⟨y,hy,h⟩:=Option.bind_eq_some_iff.1 h
 split at h
 ·rename_i zx
  split at h
  ·rename_i zy
   split at h
   ·rename_i vx
    split at h
    ·rename_i vy
     have cX:=fun W (hb:Below w.heap.size w W)=>name_Fold.calls a0 x W (hT.below hb) hx
     have cY:=fun W (hb:Below w.heap.size w W)=>name_Fold.calls a1 y W (hT.below hb) hy
     have cV:=fun W (hb:Below w.heap.size w W)=>Tryz.utf8_ValidString x W (by omega) (hT.below hb).u8
     have cU:=fun W (hb:Below w.heap.size w W)=>Tryz.utf8_ValidString y W (by omega) (hT.below hb).u8
     rw [vx] at cV;rw [vy] at cU;obtain ⟨cp1,cl1,hc1,hf1⟩:=run_runes (P:=Tryz.prog) 9 161 21 x Tryz.underlying9 Tryz.underlying161 Tryz.underlying21 zx;obtain ⟨cp2,cl2,hc2,hf2⟩:=run_runes (P:=Tryz.prog) 9 161 21 y Tryz.underlying9 Tryz.underlying161 Tryz.underlying21 zy;have cC:=fun A0 c0 A1 c1 W h0 z0 h1 z1=>slices_Compare_rune_rune.calls k A0 c0 (runesI x x.size 0) A1 c1 (runesI y y.size 0) r W h0 z0 h1 z1 h
     generalize runesI x x.size 0=lx at *
     generalize runesI y y.size 0=ly at *
     clear h zx zy hT hx hy vx vy
     have cC2:∀ W:World,Below w.heap.size w W→Calls Tryz.prog 107 #[.slice (some ⟨W.heap.size,0,none⟩) lx.length (cp1 W),.slice (some ⟨W.heap.size+1,0,none⟩) ly.length (cp2 (W.drew.alloc (.cells (cl1 W) 21)))] ((W.drew.alloc (.cells (cl1 W) 21)).drew.alloc (.cells (cl2 (W.drew.alloc (.cells (cl1 W) 21))) 21)) fun e w'=>e=.returned (.int .i64 r)∧Below w.heap.size w w':=by
      intro W hW;have q1:=hf1 W;have q2:=hf2 (W.drew.alloc (.cells (cl1 W) 21))
      have e1:(W.drew.alloc (.cells (cl1 W) 21)).heap.size=W.heap.size+1:=by
       show (W.heap.push _).size=_
       rw [Array.size_push]
      rw [e1] at q2;refine (cC _ _ _ _ _ (Kd.C_below q1.2 (by repeat (first|exact Below.refl _ _|apply below_alloc|apply below_drew1))) q1.1 q2.2 q2.1).mono ?_;rintro e w5 ⟨rfl,⟨n5,rfl⟩⟩;exact ⟨rfl,by repeat (first|exact hW|apply below_alloc|apply pw_below_drewN|apply below_drew1)⟩
     clear hf1 hf2 cC;go_enter Tryz.func59,Tryz.ntmps59;go_wp2_with (first|(go_at_call_of 104 (Value.string a0);refine (cX _ (Below.refl _ _)).mono ?_;rintro e w1 ⟨rfl,hb1⟩)|(go_at_call_of 104 (Value.string a1);refine (cY _ hb1).mono ?_;rintro e w2 ⟨rfl,hb2⟩;have hB2:=hb1.trans (hb2.mono hb1.size))|(go_at_call_of 105 (Value.string x);refine (cV _ hB2).mono ?_;rintro e w3 ⟨rfl,hb3⟩;have hB3:=hB2.trans (hb3.mono hB2.size))|(go_at_call_of 105 (Value.string y);refine (cU _ hB3).mono ?_;rintro e w4 ⟨rfl,hb4⟩;have hB4:=hB3.trans (hb4.mono hB3.size))|(go_at_call 107;go_loud (refine (cC2 w4 hB4).mono ?_);rintro e w5 ⟨rfl,hB5⟩));go_ret;exact ⟨rfl,hB5⟩
    ·cases h
   ·cases h
  ·cases h
 ·cases h
end Go.Proofs.YtpjjbaclphoilaaGreatDoor.A
