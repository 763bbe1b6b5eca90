import Derived.Test.YtpjjbaclphoilaaGreatDoorAx0
import Derived.Test.YtpjjbaclphoilaaGreatDoorAx16
import Derived.Test.YtpjjbaclphoilaaGreatDoorAx17
import Derived.Test.YtpjjbaclphoilaaGreatDoorAx18
import Derived.Test.YtpjjbaclphoilaaGreatDoorAx19
namespace Go.Proofs.YtpjjbaclphoilaaGreatDoor.A
open Go.RowKit Go.Proofs.YtpjjbaclphoilaaGreatDoorW.PrintWords Go.Proofs.YtpjjbaclphoilaaGreatDoorW.PrintLast Go.Proofs.YtpjjbaclphoilaaGreatDoorW.PrintMore
attribute [local go_sem] max2_int min2_int max_two min_two max_three min_three max_four min_four   -- for this text's walks alone
set_option linter.unusedVariables false
set_option linter.unusedSimpArgs false
set_option maxHeartbeats 8000000
set_option maxRecDepth 100000
mutual
def R05_Check.j0:Nat→Bool→ByteArray→ByteArray→List (S88)→List (S88)→List ByteArray→Int→Int→Int→Option (Bool)
 | 0,_,_,_,_,_,_,_,_,_=>none
 | k+1,x40,x580000,x580001,x580002,x580003,x580004,x580005,x580006,x580007=>if x40=true then (some false) else (R05_Check.l0 k 0 x580000 x580001 x580002 x580003 x580004 x580005 x580006 x580007)
def R05_Check.l0:Nat→Int→ByteArray→ByteArray→List (S88)→List (S88)→List ByteArray→Int→Int→Int→Option (Bool)
 | 0,_,_,_,_,_,_,_,_,_=>none
 | k+1,x3,x580000,x580001,x580002,x580003,x580004,x580005,x580006,x580007=>if x3<(x580004.length:Int) then (if 0≤x3 then ((R02_Check.f k (rdOf ByteArray.empty x580004 x3)).bind fun t585=>(if t585=0 then (if x3≤(x580004.length:Int) then ((R05_Has.f k (x580004.take (x3:Int).toNat) (rdOf ByteArray.empty x580004 x3)).bind fun t588=>(if t588=true then (some false) else (R05_Check.l0 k (wrap64 (x3+1)) x580000 x580001 x580002 x580003 x580004 x580005 x580006 x580007))) else (none)) else (some false))) else (none)) else (if (x580004.length:Int)=1 then (if x580001.toList=([]:List UInt8) then ((R04_Same.f k x580002 x580003).bind fun t589=>(some t589)) else (some false)) else (if 1<(x580004.length:Int) then (if x580001.toList=(rdOf ByteArray.empty x580004 1).toList then ((R04_Within.f k x580002 x580003).bind fun t591=>(some t591)) else (some false)) else (none)))
end
def R05_Check.f (k:Nat) (a0_0:ByteArray) (a0_1:ByteArray) (l0_2:List (S88)) (l0_3:List (S88)) (l0_4:List ByteArray) (a0_5:Int) (a0_6:Int) (a0_7:Int):Option (Bool):=(R04_Check.f k l0_2).bind fun t580=>(if t580=true then ((R04_Check.f k l0_3).bind fun t581=>(if t581=true then ((R05_IsID.f a0_5 a0_6 a0_7).bind fun t582=>(if t582=true then (if (l0_4.length:Int)<1 then (R05_Check.j0 k true a0_0 a0_1 l0_2 l0_3 l0_4 a0_5 a0_6 a0_7) else (if (l0_4.length:Int)>8 then (R05_Check.j0 k true a0_0 a0_1 l0_2 l0_3 l0_4 a0_5 a0_6 a0_7) else (if 0<(l0_4.length:Int) then (R05_Check.j0 k ((rdOf ByteArray.empty l0_4 0).toList != a0_0.toList) a0_0 a0_1 l0_2 l0_3 l0_4 a0_5 a0_6 a0_7) else (none)))) else (R05_Check.j0 k true a0_0 a0_1 l0_2 l0_3 l0_4 a0_5 a0_6 a0_7))) else (R05_Check.j0 k true a0_0 a0_1 l0_2 l0_3 l0_4 a0_5 a0_6 a0_7))) else (R05_Check.j0 k true a0_0 a0_1 l0_2 l0_3 l0_4 a0_5 a0_6 a0_7))
def R05_Check.T1:Bool × List (List Nat × List Nat):=(true,[([],[]),([0],[0]),([1],[1]),([2],[2]),([3,2],[3]),([4],[4]),([5,4],[4,5]),([6,4,4],[4,6]),([7,4],[4,7]),([4,8],[4,8]),([9,7],[9]),([10],[10]),([11,10],[10,11]),([12,10,10],[10,12]),([13,10],[10,13]),([10,14],[10,14]),([15,13],[15]),([16],[16]),([17,16],[16,17]),([18,16],[16,18]),([19,16],[16,19]),([16,20],[16,20]),([21,16],[21]),([22],[22]),([23,22],[22,23]),([24,22],[22,24]),([25,22],[22,25]),([22,26],[22,26]),([27,22],[27]),([28],[28]),([29,28],[28,29]),([30,28],[28,30]),([31,28],[28,31]),([28],[28]),([33,28],[28,33]),([32,34,28],[28,32,34]),([28,35],[28,35])])
def R05_Check.B1:List Nat:=[0,1,3,7,15,31,63,127,255,511,1023,2047,4095,8191,16383,32767,65535,131071,262143,524287,1048575,2097151,4194303,8388607,16777215,33554431,67108863,134217727,268435455,536870911,1073741823,2147483647,4294967295,536870911,9126805503,34359738367,68719476735]
theorem R05_Check.tab1:rtab .any (opsOf Tryz.f51 1)=R05_Check.T1:=by kernel_rfl
theorem R05_Check.bits1:waitsOk R05_Check.T1.2 R05_Check.B1=true:=by kernel_rfl
def R05_Check.T6:Bool × List (List Nat × List Nat):=(true,[([],[]),([0],[0]),([],[]),([1,2],[1,2]),([3],[3]),([4],[4]),([5],[5]),([6,5],[6]),([7],[7]),([8,7],[7,8]),([7],[7]),([9,10,7],[7,9,10]),([7],[7]),([12,7],[7,12]),([7],[7]),([13,14,7],[7,13,14]),([15,7],[7,15]),([11,16,7,7],[7,11,16]),([7,17],[7,17])])
def R05_Check.B6:List Nat:=[0,1,0,7,15,31,63,127,255,511,255,2047,255,4351,255,28927,61695,131071,262143]
theorem R05_Check.tab6:rtab .any (opsOf Tryz.f51 6)=R05_Check.T6:=by kernel_rfl
theorem R05_Check.bits6:waitsOk R05_Check.T6.2 R05_Check.B6=true:=by kernel_rfl
def R05_Check.T10:Bool × List (List Nat × List Nat):=(true,[([],[]),([0],[0]),([],[]),([2],[2]),([3],[3]),([4],[4]),([1,5],[1,5]),([6],[6]),([7],[7]),([8,7],[7,8]),([7],[7]),([10,7],[7,10]),([9,11,7,7],[7,9,11]),([7,12],[7,12]),([13,12,0,1,2,3,4,5,6,7,8,9,10,11,12,13],[13])])
def R05_Check.B10:List Nat:=[0,1,0,4,12,28,63,127,255,511,255,1279,4095,8191,16383]
theorem R05_Check.tab10:rtab .any (opsOf Tryz.f51 10)=R05_Check.T10:=by kernel_rfl
theorem R05_Check.bits10:waitsOk R05_Check.T10.2 R05_Check.B10=true:=by kernel_rfl
theorem R05_Check.calls (k:Nat) (a0_0:ByteArray) (a0_1:ByteArray) (A0_2:Option Addr) (c0_2:Nat) (l0_2:List (S88)) (A0_3:Option Addr) (c0_3:Nat) (l0_3:List (S88)) (A0_4:Option Addr) (c0_4:Nat) (l0_4:List ByteArray) (a0_5:Int) (a0_6:Int) (a0_7:Int) (r:Bool) (w:World) (hr0_2:Kd.C k88 w A0_2 l0_2.length l0_2) (hc0_2:l0_2.length≤c0_2) (hr0_3:Kd.C k88 w A0_3 l0_3.length l0_3) (hc0_3:l0_3.length≤c0_3) (hr0_4:Kd.C Kd.string w A0_4 l0_4.length l0_4) (hc0_4:l0_4.length≤c0_4) (h:R05_Check.f k a0_0 a0_1 l0_2 l0_3 l0_4 a0_5 a0_6 a0_7=some r):
  Calls Tryz.prog 51 #[.agg #[.string a0_0,.string a0_1,.slice A0_2 l0_2.length c0_2,.slice A0_3 l0_3.length c0_3,.slice A0_4 l0_4.length c0_4,.int .i64 a0_5,.int .i64 a0_6,.int .i64 a0_7]] w fun e w'=>e=.returned (.bool r)∧Below w.heap.size w w':=by
 have hu41:=Tryz.underlying41;have hu36:=Tryz.underlying36;have HR0_2:=aM hr0_2;have HC0_2:=aM hc0_2;clear hr0_2 hc0_2;have HR0_3:=aM hr0_3;have HC0_3:=aM hc0_3;clear hr0_3 hc0_3;have HR0_4:=aM hr0_4;have HC0_4:=aM hc0_4;clear hr0_4 hc0_4;have HB:=aM (Below.refl w.heap.size w);unfold R05_Check.f at h;have H:=h;clear h;have HC101:=aM H;clear H;go_enter Tryz.func51,Tryz.ntmps51;go_upto_region 1 with (first|((with_reducible refine gate_dst (N:=1) rfl ?_);(try (refine gate_guard (by rfl) ?_;dsimp only));refine boxA 1 #[.string a0_0,.string a0_1,.slice A0_2 l0_2.length c0_2,.slice A0_3 l0_3.length c0_3,.slice A0_4 l0_4.length c0_4,.int .i64 a0_5,.int .i64 a0_6,.int .i64 a0_7] 41 ?_;intro gb579 hg w102 hbox hb;have n0_:=aM (below_step (bwA) hb);have n1_:=aM (hbox);have n2_:=aM (hgW hg:w.heap.size≤gb579);have n3_:=aM (hgW hg:w.heap.size≤gb579);clear HB;have HB:=n0_;have BK579:=n1_;have GW579:=n2_;have GE579:=n3_;clear n0_ n1_ n2_ n3_;clear hb hbox hg))
 (try simp only [Act.put,List.setIfInBounds_toArray,List.set_cons_zero,List.set_cons_succ])
 go_cut [40] (fun v40 wc=>∃ (kq:Nat) (x40_100:Bool),v40=.bool x40_100∧Aside0 (R05_Check.j0 kq x40_100 a0_0 a0_1 l0_2 l0_3 l0_4 a0_5 a0_6 a0_7=some r)∧Aside0 (kq≤k)∧Aside0 (wc.heap[gb579]? = some (.cells #[.string a0_0,.string a0_1,(.slice A0_2 l0_2.length c0_2),(.slice A0_3 l0_3.length c0_3),(.slice A0_4 l0_4.length c0_4),.int .i64 a0_5,.int .i64 a0_6,.int .i64 a0_7] 41 (0,0)))∧Aside0 (Below w.heap.size w wc))
 case first=>
  have H:=HC101.out;clear HC101;replace H:=bnA H;obtain ⟨t580,A103,H⟩:=H;revert H;refine itR ?L11p ?L11n
  case' L11p=>
   intro c104 H;subst c104;replace H:=bnA H;obtain ⟨t581,A105,H⟩:=H;revert H;refine itR ?L12p ?L12n
   case' L12p=>
    intro c106 H;subst c106;replace H:=bnA H;obtain ⟨t582,A107,H⟩:=H;revert H;refine itR ?L13p ?L13n
    case' L13p=>
     intro c108 H;subst c108;revert H;refine itR ?L14p ?L14n
     case' L14p=>
      intro c109 H;have c109b0:=dT c109;have c109b1:decide (l0_4.length<1)=true:=dT (by omega);clear c109
      (first|rw [c109b0]|(simp only [i64_w,i32_w];rw [c109b0])|skip)
      have H':=aM H;clear H;have M1:=trivial;have M2:=trivial;have M3:=trivial;have M4:=trivial;have M5:=trivial
     case' L14n=>
      intro c109 H;have c109b0:=dF c109;have c109b1:decide (l0_4.length<1)=false:=dF (by omega);clear c109
      (first|rw [c109b0]|(simp only [i64_w,i32_w];rw [c109b0])|skip)
      revert H;refine itR ?L15p ?L15n
      case' L15p=>
       intro c110 H;have c110b0:=gtT c110;have c110b1:decide (8<l0_4.length)=true:=dT (by omega);clear c110;have H':=aM H;clear H;have M1:=trivial;have M2:=trivial;have M3:=trivial;have M4:=trivial;have M6:=trivial
      case' L15n=>
       intro c110 H;have c110b0:=gtF c110;have c110b1:decide (8<l0_4.length)=false:=dF (by omega);clear c110;replace H:=itN H;obtain ⟨c111,H⟩:=H;have c111b0:=dT c111;have c111b1:decide (0<l0_4.length)=true:=dT (by omega);clear c111;have H':=aM H;clear H;have M10:=trivial
    case' L13n=>
     intro c108 H;replace c108:=Bool.eq_false_iff.mpr c108;subst c108;have H':=aM H;clear H;have M1:=trivial;have M2:=trivial;have M3:=trivial;have M7:=trivial
   case' L12n=>
    intro c106 H;replace c106:=Bool.eq_false_iff.mpr c106;subst c106;have H':=aM H;clear H;have M1:=trivial;have M2:=trivial;have M8:=trivial
  case' L11n=>
   intro c104 H;replace c104:=Bool.eq_false_iff.mpr c104;subst c104;have H':=aM H;clear H;have M1:=trivial;have M9:=trivial
  all_goals
   case _=>
    (try go_wp2);replace BK579:=aM (blk_drew BK579.out);replace HB:=aM (below_drew1 HB.out)
    first
     | clear M1
       refine start_ (n:=37) (S:=fun w'=>w'.cell? ⟨gb579,0,none⟩=some (.string a0_0)∧w'.cell? ⟨gb579,1,none⟩=some (.string a0_1)∧w'.cell? ⟨gb579,2,none⟩=some (.slice A0_2 l0_2.length c0_2)∧w'.cell? ⟨gb579,3,none⟩=some (.slice A0_3 l0_3.length c0_3)∧w'.cell? ⟨gb579,4,none⟩=some (.slice A0_4 l0_4.length c0_4)∧w'.cell? ⟨gb579,5,none⟩=some (.int .i64 a0_5)∧w'.cell? ⟨gb579,6,none⟩=some (.int .i64 a0_6)∧w'.cell? ⟨gb579,7,none⟩=some (.int .i64 a0_7)) (ds:=[]) (mkB 37 0) (by kernel_rfl) rfl rfl ⟨(blk_cell BK579.out 0).trans rfl,(blk_cell BK579.out 1).trans rfl,(blk_cell BK579.out 2).trans rfl,(blk_cell BK579.out 3).trans rfl,(blk_cell BK579.out 4).trans rfl,(blk_cell BK579.out 5).trans rfl,(blk_cell BK579.out 6).trans rfl,(blk_cell BK579.out 7).trans rfl⟩ (fun hHeld=>?_);refine with_tabW R05_Check.tab1 R05_Check.bits1 (fun HT_ HW_=>?_)
       generalize w102.drew=w201 at BK579 HB hHeld ⊢
       refine pureA 0 (some 4) (mkB 37 1) ?_;refine takeA 1 (some 5) (mkB 37 3) ?_ rfl (Or.inl ⟨by rfl,by rintro w' ⟨s0,s1,s2,s3,s4,s5,s6,s7⟩;go_simp;with_reducible rfl⟩);refine oneA 2 (some 6) (mkB 37 7) (fun K hK=>?_);refine goesS Tryz.func52 #[.slice A0_2 l0_2.length c0_2] ?_
       with_reducible refine (R04_Check.calls _ _ _ _ _ _ ?side1 ?side2 A103.out).mono ?_
       (case side1=>exact Kd.C_below HR0_2.out (bwA))
       (case side2=>exact HC0_2.out)
       rintro e w202 ⟨rfl,hb⟩;refine ⟨_,rfl,?_⟩;replace BK579:=aM (bkB BK579 hb);replace HB:=aM (below_step (bwA) hb)
       (try clear hb)
       refine hK.out _ _ ⟨(blk_cell BK579.out 0).trans rfl,(blk_cell BK579.out 1).trans rfl,(blk_cell BK579.out 2).trans rfl,(blk_cell BK579.out 3).trans rfl,(blk_cell BK579.out 4).trans rfl,(blk_cell BK579.out 5).trans rfl,(blk_cell BK579.out 6).trans rfl,(blk_cell BK579.out 7).trans rfl⟩ (fun hHeld=>?_);clear hK K;refine normA ?_;refine pureA 3 (some 7) (mkB 37 15) ?_;refine pureA 4 (some 8) (mkB 37 31) ?_
       first
        | clear M2
          refine pureA 5 (some 9) (mkB 37 63) ?_;refine takeA 6 (some 10) (mkB 37 127) ?_ rfl (Or.inl ⟨by rfl,by rintro w' ⟨s0,s1,s2,s3,s4,s5,s6,s7⟩;go_simp;with_reducible rfl⟩);refine oneA 7 (some 11) (mkB 37 255) (fun K hK=>?_);refine goesS Tryz.func52 #[.slice A0_3 l0_3.length c0_3] ?_
          with_reducible refine (R04_Check.calls _ _ _ _ _ _ ?side1 ?side2 A105.out).mono ?_
          (case side1=>exact Kd.C_below HR0_3.out (bwA))
          (case side2=>exact HC0_3.out)
          rintro e w203 ⟨rfl,hb⟩;refine ⟨_,rfl,?_⟩;replace BK579:=aM (bkB BK579 hb);replace HB:=aM (below_step (bwA) hb)
          (try clear hb)
          refine hK.out _ _ ⟨(blk_cell BK579.out 0).trans rfl,(blk_cell BK579.out 1).trans rfl,(blk_cell BK579.out 2).trans rfl,(blk_cell BK579.out 3).trans rfl,(blk_cell BK579.out 4).trans rfl,(blk_cell BK579.out 5).trans rfl,(blk_cell BK579.out 6).trans rfl,(blk_cell BK579.out 7).trans rfl⟩ (fun hHeld=>?_);clear hK K;refine normA ?_;refine pureA 8 (some 12) (mkB 37 511) ?_;refine pureA 9 (some 13) (mkB 37 1023) ?_;refine pureA 10 (some 14) (mkB 37 2047) ?_
          first
           | clear M3
             refine pureA 11 (some 15) (mkB 37 4095) ?_;refine takeA 12 (some 16) (mkB 37 8191) ?_ rfl (Or.inl ⟨by rfl,by rintro w' ⟨s0,s1,s2,s3,s4,s5,s6,s7⟩;go_simp;with_reducible rfl⟩);refine oneA 13 (some 17) (mkB 37 16383) (fun K hK=>?_);refine goesS Tryz.func53 #[.agg #[.int .i64 a0_5,.int .i64 a0_6,.int .i64 a0_7]] ?_
             with_reducible refine (R05_IsID.calls _ _ _ _ _ A107.out).mono ?_
             rintro e w204 ⟨rfl,hb⟩;refine ⟨_,rfl,?_⟩;replace BK579:=aM (bkB BK579 hb);replace HB:=aM (below_step (bwA) hb)
             (try clear hb)
             refine hK.out _ _ ⟨(blk_cell BK579.out 0).trans rfl,(blk_cell BK579.out 1).trans rfl,(blk_cell BK579.out 2).trans rfl,(blk_cell BK579.out 3).trans rfl,(blk_cell BK579.out 4).trans rfl,(blk_cell BK579.out 5).trans rfl,(blk_cell BK579.out 6).trans rfl,(blk_cell BK579.out 7).trans rfl⟩ (fun hHeld=>?_);clear hK K;refine normA ?_;refine pureA 14 (some 18) (mkB 37 32767) ?_;refine pureA 15 (some 19) (mkB 37 65535) ?_;refine pureA 16 (some 20) (mkB 37 131071) ?_
             first
              | clear M4
                refine pureA 17 (some 21) (mkB 37 262143) ?_;refine takeA 18 (some 22) (mkB 37 524287) ?_ rfl (Or.inl ⟨by rfl,by rintro w' ⟨s0,s1,s2,s3,s4,s5,s6,s7⟩;go_simp;with_reducible rfl⟩);refine pureA 19 (some 23) (mkB 37 1048575) ?_;refine pureA 20 (some 24) (mkB 37 2097151) ?_;refine pureA 21 (some 25) (mkB 37 4194303) ?_;refine pureA 22 (some 26) (mkB 37 8388607) ?_
                first
                 | clear M5
                   refine pureU 23 (some 27) (mkB 37 16777215) ?_;refine pureU 24 (some 28) (mkB 37 33554431) ?_;refine pureU 25 (some 29) (mkB 37 67108863) ?_;refine pureU 26 (some 30) (mkB 37 134217727) ?_;refine pureA 27 (some 31) (mkB 37 268435455) ?_;refine pureA 28 (some 32) (mkB 37 536870911) ?_;refine pureU 29 (some 33) (mkB 37 1073741823) ?_;refine pureU 30 (some 34) (mkB 37 2147483647) ?_;refine pureU 31 (some 35) (mkB 37 4294967295) ?_;refine pureU 32 (some 36) (mkB 37 8589934591) ?_;refine pureU 33 (some 37) (mkB 37 17179869183) ?_;refine pureU 34 (some 38) (mkB 37 34359738367) ?_;refine pureU 35 (some 39) (mkB 37 68719476735) ?_;refine pureA 36 (some 40) (mkB 37 137438953471) ?_;refine done_ (done_of HT_.out (by kernel_rfl)) ?_;try go_wp2
                   go_meet
                   case rel=>exact ⟨_,(true),(endS),H',⟨by first|omega|exact Nat.le_refl _⟩,⟨blkZ⟩,⟨bwA⟩⟩
                 | clear M6
                   refine pureA 23 (some 27) (mkB 37 16777215) ?_;refine takeA 24 (some 28) (mkB 37 33554431) ?_ rfl (Or.inl ⟨by rfl,by rintro w' ⟨s0,s1,s2,s3,s4,s5,s6,s7⟩;go_simp;with_reducible rfl⟩);refine pureA 25 (some 29) (mkB 37 67108863) ?_;refine pureA 26 (some 30) (mkB 37 134217727) ?_;refine pureA 27 (some 31) (mkB 37 268435455) ?_;refine pureA 28 (some 32) (mkB 37 536870911) ?_;refine pureU 29 (some 33) (mkB 37 1073741823) ?_;refine pureU 30 (some 34) (mkB 37 2147483647) ?_;refine pureU 31 (some 35) (mkB 37 4294967295) ?_;refine pureU 32 (some 36) (mkB 37 8589934591) ?_;refine pureU 33 (some 37) (mkB 37 17179869183) ?_;refine pureU 34 (some 38) (mkB 37 34359738367) ?_;refine pureU 35 (some 39) (mkB 37 68719476735) ?_;refine pureA 36 (some 40) (mkB 37 137438953471) ?_;refine done_ (done_of HT_.out (by kernel_rfl)) ?_;try go_wp2
                   go_meet
                   case rel=>exact ⟨_,(true),(endS),H',⟨by first|omega|exact Nat.le_refl _⟩,⟨blkZ⟩,⟨bwA⟩⟩
              | clear M7
                refine pureU 17 (some 21) (mkB 37 262143) ?_;refine pureU 18 (some 22) (mkB 37 524287) ?_;refine pureU 19 (some 23) (mkB 37 1048575) ?_;refine pureU 20 (some 24) (mkB 37 2097151) ?_;refine pureA 21 (some 25) (mkB 37 4194303) ?_;refine pureA 22 (some 26) (mkB 37 8388607) ?_;refine pureU 23 (some 27) (mkB 37 16777215) ?_;refine pureU 24 (some 28) (mkB 37 33554431) ?_;refine pureU 25 (some 29) (mkB 37 67108863) ?_;refine pureU 26 (some 30) (mkB 37 134217727) ?_;refine pureA 27 (some 31) (mkB 37 268435455) ?_;refine pureA 28 (some 32) (mkB 37 536870911) ?_;refine pureU 29 (some 33) (mkB 37 1073741823) ?_;refine pureU 30 (some 34) (mkB 37 2147483647) ?_;refine pureU 31 (some 35) (mkB 37 4294967295) ?_;refine pureU 32 (some 36) (mkB 37 8589934591) ?_;refine pureU 33 (some 37) (mkB 37 17179869183) ?_;refine pureU 34 (some 38) (mkB 37 34359738367) ?_;refine pureU 35 (some 39) (mkB 37 68719476735) ?_;refine pureA 36 (some 40) (mkB 37 137438953471) ?_;refine done_ (done_of HT_.out (by kernel_rfl)) ?_;try go_wp2
                go_meet
                case rel=>exact ⟨_,(true),(endS),H',⟨by first|omega|exact Nat.le_refl _⟩,⟨blkZ⟩,⟨bwA⟩⟩
           | clear M8
             refine pureU 11 (some 15) (mkB 37 4095) ?_;refine pureU 12 (some 16) (mkB 37 8191) ?_;refine pureU 13 (some 17) (mkB 37 16383) ?_;refine pureU 14 (some 18) (mkB 37 32767) ?_;refine pureA 15 (some 19) (mkB 37 65535) ?_;refine pureA 16 (some 20) (mkB 37 131071) ?_;refine pureU 17 (some 21) (mkB 37 262143) ?_;refine pureU 18 (some 22) (mkB 37 524287) ?_;refine pureU 19 (some 23) (mkB 37 1048575) ?_;refine pureU 20 (some 24) (mkB 37 2097151) ?_;refine pureA 21 (some 25) (mkB 37 4194303) ?_;refine pureA 22 (some 26) (mkB 37 8388607) ?_;refine pureU 23 (some 27) (mkB 37 16777215) ?_;refine pureU 24 (some 28) (mkB 37 33554431) ?_;refine pureU 25 (some 29) (mkB 37 67108863) ?_;refine pureU 26 (some 30) (mkB 37 134217727) ?_;refine pureA 27 (some 31) (mkB 37 268435455) ?_;refine pureA 28 (some 32) (mkB 37 536870911) ?_;refine pureU 29 (some 33) (mkB 37 1073741823) ?_;refine pureU 30 (some 34) (mkB 37 2147483647) ?_;refine pureU 31 (some 35) (mkB 37 4294967295) ?_;refine pureU 32 (some 36) (mkB 37 8589934591) ?_;refine pureU 33 (some 37) (mkB 37 17179869183) ?_;refine pureU 34 (some 38) (mkB 37 34359738367) ?_;refine pureU 35 (some 39) (mkB 37 68719476735) ?_;refine pureA 36 (some 40) (mkB 37 137438953471) ?_;refine done_ (done_of HT_.out (by kernel_rfl)) ?_;try go_wp2
             go_meet
             case rel=>exact ⟨_,(true),(endS),H',⟨by first|omega|exact Nat.le_refl _⟩,⟨blkZ⟩,⟨bwA⟩⟩
        | clear M9
          refine pureU 5 (some 9) (mkB 37 63) ?_;refine pureU 6 (some 10) (mkB 37 127) ?_;refine pureU 7 (some 11) (mkB 37 255) ?_;refine pureU 8 (some 12) (mkB 37 511) ?_;refine pureA 9 (some 13) (mkB 37 1023) ?_;refine pureA 10 (some 14) (mkB 37 2047) ?_;refine pureU 11 (some 15) (mkB 37 4095) ?_;refine pureU 12 (some 16) (mkB 37 8191) ?_;refine pureU 13 (some 17) (mkB 37 16383) ?_;refine pureU 14 (some 18) (mkB 37 32767) ?_;refine pureA 15 (some 19) (mkB 37 65535) ?_;refine pureA 16 (some 20) (mkB 37 131071) ?_;refine pureU 17 (some 21) (mkB 37 262143) ?_;refine pureU 18 (some 22) (mkB 37 524287) ?_;refine pureU 19 (some 23) (mkB 37 1048575) ?_;refine pureU 20 (some 24) (mkB 37 2097151) ?_;refine pureA 21 (some 25) (mkB 37 4194303) ?_;refine pureA 22 (some 26) (mkB 37 8388607) ?_;refine pureU 23 (some 27) (mkB 37 16777215) ?_;refine pureU 24 (some 28) (mkB 37 33554431) ?_;refine pureU 25 (some 29) (mkB 37 67108863) ?_;refine pureU 26 (some 30) (mkB 37 134217727) ?_;refine pureA 27 (some 31) (mkB 37 268435455) ?_;refine pureA 28 (some 32) (mkB 37 536870911) ?_;refine pureU 29 (some 33) (mkB 37 1073741823) ?_;refine pureU 30 (some 34) (mkB 37 2147483647) ?_;refine pureU 31 (some 35) (mkB 37 4294967295) ?_;refine pureU 32 (some 36) (mkB 37 8589934591) ?_;refine pureU 33 (some 37) (mkB 37 17179869183) ?_;refine pureU 34 (some 38) (mkB 37 34359738367) ?_;refine pureU 35 (some 39) (mkB 37 68719476735) ?_;refine pureA 36 (some 40) (mkB 37 137438953471) ?_;refine done_ (done_of HT_.out (by kernel_rfl)) ?_;try go_wp2
          go_meet
          case rel=>exact ⟨_,(true),(endS),H',⟨by first|omega|exact Nat.le_refl _⟩,⟨blkZ⟩,⟨bwA⟩⟩
     | clear M10
       have p583:0≤(0:Int):=(by omega);have q583:0<(l0_4.length:Int):=odA;obtain ⟨ad583,e583,hx583_0⟩:=Kd.at_string HR0_4.out 0 p583 q583;have hw583_0:=hx583_0
       (try rw [show ((0:Int)).toNat=0 from rfl] at hw583_0)
       (try rw [show 0 * 1=0 from rfl] at hw583_0)
       (try rw [Addr.add_zero'] at hw583_0)
       cases e583
       have qi583:(0<l0_4.length)=True:=eq_true (by omega)
       (try rw [show ((0:Int)).toNat=0 from rfl] at hx583_0)
       (try rw [Addr.add_zero'] at hx583_0)
       replace hx583_0:=crA hx583_0;replace p583:=eq_true p583;replace q583:=eq_true q583;refine start_ (n:=37) (S:=fun w'=>w'.cell? ⟨gb579,0,none⟩=some (.string a0_0)∧w'.cell? ⟨gb579,1,none⟩=some (.string a0_1)∧w'.cell? ⟨gb579,2,none⟩=some (.slice A0_2 l0_2.length c0_2)∧w'.cell? ⟨gb579,3,none⟩=some (.slice A0_3 l0_3.length c0_3)∧w'.cell? ⟨gb579,4,none⟩=some (.slice (some ad583) l0_4.length c0_4)∧w'.cell? ⟨gb579,5,none⟩=some (.int .i64 a0_5)∧w'.cell? ⟨gb579,6,none⟩=some (.int .i64 a0_6)∧w'.cell? ⟨gb579,7,none⟩=some (.int .i64 a0_7)∧w'.cell? ad583=some (.string (rdOf ByteArray.empty l0_4 0))) (ds:=[]) (mkB 37 0) (by kernel_rfl) rfl rfl ⟨(blk_cell BK579.out 0).trans rfl,(blk_cell BK579.out 1).trans rfl,(blk_cell BK579.out 2).trans rfl,(blk_cell BK579.out 3).trans rfl,(blk_cell BK579.out 4).trans rfl,(blk_cell BK579.out 5).trans rfl,(blk_cell BK579.out 6).trans rfl,(blk_cell BK579.out 7).trans rfl,crA hw583_0⟩ (fun hHeld=>?_);refine with_tabW R05_Check.tab1 R05_Check.bits1 (fun HT_ HW_=>?_)
       generalize w102.drew=w201 at BK579 HB hx583_0 hHeld ⊢
       refine pureA 0 (some 4) (mkB 37 1) ?_;refine takeA 1 (some 5) (mkB 37 3) ?_ rfl (Or.inl ⟨by rfl,by rintro w' ⟨s0,s1,s2,s3,s4,s5,s6,s7,s8⟩;go_simp;with_reducible rfl⟩);refine oneA 2 (some 6) (mkB 37 7) (fun K hK=>?_);refine goesS Tryz.func52 #[.slice A0_2 l0_2.length c0_2] ?_
       with_reducible refine (R04_Check.calls _ _ _ _ _ _ ?side1 ?side2 A103.out).mono ?_
       (case side1=>exact Kd.C_below HR0_2.out (bwA))
       (case side2=>exact HC0_2.out)
       rintro e w202 ⟨rfl,hb⟩;refine ⟨_,rfl,?_⟩;replace BK579:=aM (bkB BK579 hb);replace HB:=aM (below_step (bwA) hb)
       (try clear hb)
       refine hK.out _ _ ⟨(blk_cell BK579.out 0).trans rfl,(blk_cell BK579.out 1).trans rfl,(blk_cell BK579.out 2).trans rfl,(blk_cell BK579.out 3).trans rfl,(blk_cell BK579.out 4).trans rfl,(blk_cell BK579.out 5).trans rfl,(blk_cell BK579.out 6).trans rfl,(blk_cell BK579.out 7).trans rfl,crA hw583_0⟩ (fun hHeld=>?_);clear hK K;refine normA ?_;refine pureA 3 (some 7) (mkB 37 15) ?_;refine pureA 4 (some 8) (mkB 37 31) ?_;refine pureA 5 (some 9) (mkB 37 63) ?_;refine takeA 6 (some 10) (mkB 37 127) ?_ rfl (Or.inl ⟨by rfl,by rintro w' ⟨s0,s1,s2,s3,s4,s5,s6,s7,s8⟩;go_simp;with_reducible rfl⟩);refine oneA 7 (some 11) (mkB 37 255) (fun K hK=>?_);refine goesS Tryz.func52 #[.slice A0_3 l0_3.length c0_3] ?_
       with_reducible refine (R04_Check.calls _ _ _ _ _ _ ?side1 ?side2 A105.out).mono ?_
       (case side1=>exact Kd.C_below HR0_3.out (bwA))
       (case side2=>exact HC0_3.out)
       rintro e w203 ⟨rfl,hb⟩;refine ⟨_,rfl,?_⟩;replace BK579:=aM (bkB BK579 hb);replace HB:=aM (below_step (bwA) hb)
       (try clear hb)
       refine hK.out _ _ ⟨(blk_cell BK579.out 0).trans rfl,(blk_cell BK579.out 1).trans rfl,(blk_cell BK579.out 2).trans rfl,(blk_cell BK579.out 3).trans rfl,(blk_cell BK579.out 4).trans rfl,(blk_cell BK579.out 5).trans rfl,(blk_cell BK579.out 6).trans rfl,(blk_cell BK579.out 7).trans rfl,crA hw583_0⟩ (fun hHeld=>?_);clear hK K;refine normA ?_;refine pureA 8 (some 12) (mkB 37 511) ?_;refine pureA 9 (some 13) (mkB 37 1023) ?_;refine pureA 10 (some 14) (mkB 37 2047) ?_;refine pureA 11 (some 15) (mkB 37 4095) ?_;refine takeA 12 (some 16) (mkB 37 8191) ?_ rfl (Or.inl ⟨by rfl,by rintro w' ⟨s0,s1,s2,s3,s4,s5,s6,s7,s8⟩;go_simp;with_reducible rfl⟩);refine oneA 13 (some 17) (mkB 37 16383) (fun K hK=>?_);refine goesS Tryz.func53 #[.agg #[.int .i64 a0_5,.int .i64 a0_6,.int .i64 a0_7]] ?_
       with_reducible refine (R05_IsID.calls _ _ _ _ _ A107.out).mono ?_
       rintro e w204 ⟨rfl,hb⟩;refine ⟨_,rfl,?_⟩;replace BK579:=aM (bkB BK579 hb);replace HB:=aM (below_step (bwA) hb)
       (try clear hb)
       refine hK.out _ _ ⟨(blk_cell BK579.out 0).trans rfl,(blk_cell BK579.out 1).trans rfl,(blk_cell BK579.out 2).trans rfl,(blk_cell BK579.out 3).trans rfl,(blk_cell BK579.out 4).trans rfl,(blk_cell BK579.out 5).trans rfl,(blk_cell BK579.out 6).trans rfl,(blk_cell BK579.out 7).trans rfl,crA hw583_0⟩ (fun hHeld=>?_);clear hK K;refine normA ?_;refine pureA 14 (some 18) (mkB 37 32767) ?_;refine pureA 15 (some 19) (mkB 37 65535) ?_;refine pureA 16 (some 20) (mkB 37 131071) ?_;refine pureA 17 (some 21) (mkB 37 262143) ?_;refine takeA 18 (some 22) (mkB 37 524287) ?_ rfl (Or.inl ⟨by rfl,by rintro w' ⟨s0,s1,s2,s3,s4,s5,s6,s7,s8⟩;go_simp;with_reducible rfl⟩);refine pureA 19 (some 23) (mkB 37 1048575) ?_;refine pureA 20 (some 24) (mkB 37 2097151) ?_;refine pureA 21 (some 25) (mkB 37 4194303) ?_;refine pureA 22 (some 26) (mkB 37 8388607) ?_;refine pureA 23 (some 27) (mkB 37 16777215) ?_;refine takeA 24 (some 28) (mkB 37 33554431) ?_ rfl (Or.inl ⟨by rfl,by rintro w' ⟨s0,s1,s2,s3,s4,s5,s6,s7,s8⟩;go_simp;with_reducible rfl⟩);refine pureA 25 (some 29) (mkB 37 67108863) ?_;refine pureA 26 (some 30) (mkB 37 134217727) ?_;refine pureA 27 (some 31) (mkB 37 268435455) ?_;refine pureA 28 (some 32) (mkB 37 536870911) ?_;refine pureA 29 (some 33) (mkB 37 1073741823) ?_;refine pureA 33 (some 37) (mkB 37 9663676415) ?_;refine takeA 30 (some 34) (mkB 37 10737418239) ?_ rfl (Or.inl ⟨by rfl,by rintro w' ⟨s0,s1,s2,s3,s4,s5,s6,s7,s8⟩;go_simp;with_reducible rfl⟩);refine pureA 31 (some 35) (mkB 37 12884901887) ?_;refine takeA 32 (some 36) (mkB 37 17179869183) ?_ rfl (Or.inl ⟨by rfl,by rintro w' ⟨s0,s1,s2,s3,s4,s5,s6,s7,s8⟩;go_simp;with_reducible rfl⟩);refine takeA 34 (some 38) (mkB 37 34359738367) ?_ rfl (Or.inl ⟨by rfl,by rintro w' ⟨s0,s1,s2,s3,s4,s5,s6,s7,s8⟩;go_simp;with_reducible rfl⟩);refine pureA 35 (some 39) (mkB 37 68719476735) ?_;refine pureA 36 (some 40) (mkB 37 137438953471) ?_;refine done_ (done_of HT_.out (by kernel_rfl)) ?_;try go_wp2
       go_meet
       case rel=>exact ⟨_,(((rdOf ByteArray.empty l0_4 0).toList != a0_0.toList)),(endS),H',⟨by first|omega|exact Nat.le_refl _⟩,⟨blkZ⟩,⟨bwA⟩⟩
 case rest=>
  clear HC101;(try clear c1);(try clear p2);(try clear c5);(try clear c10);(try clear c52);obtain ⟨kq,x40_100,rfl,HA,HJ100,BK579,HB⟩:=hcut
  cases kq with
  | zero=>exact absurd HA.out (by simp [R05_Check.j0])
  | succ kj100=>
   have H:=HA.out;clear HA;simp only [R05_Check.j0] at H;revert H;refine itR ?L35p ?L35n
   case' L35p=>
    intro c103 H;subst c103;obtain rfl:=sI H;have M33:=trivial
   case' L35n=>
    intro c103 H;replace c103:=Bool.eq_false_iff.mpr c103;subst c103;have H':=aM H;clear H;have M34:=trivial
   all_goals
    case _=>
     go_wp2
     first
      | clear M33
        go_ret;exact ⟨endA,bwA⟩
      | clear M34
        go_loopg [3] kj100 (fun kq v3 w'=>∃ (x3_2:Int),v3=.int .i64 x3_2∧Aside0 (R05_Check.l0 kq x3_2 a0_0 a0_1 l0_2 l0_3 l0_4 a0_5 a0_6 a0_7=some r)∧Aside0 (kq≤kj100)∧Aside0 (w'.heap[gb579]? = some (.cells #[.string a0_0,.string a0_1,(.slice A0_2 l0_2.length c0_2),(.slice A0_3 l0_3.length c0_3),(.slice A0_4 l0_4.length c0_4),.int .i64 a0_5,.int .i64 a0_6,.int .i64 a0_7] 41 (0,0)))∧Aside0 (Below w.heap.size w w'))
        case atStart=>exact ⟨(0),(endS),H',⟨Nat.le_refl _⟩,⟨blkZ⟩,⟨bwA⟩⟩
        case round=>
         clear H';(try clear c1);(try clear p2);(try clear c5);(try clear c10);(try clear c52);(try clear c103);(try clear c104);(try clear c106);(try clear p2);obtain ⟨x3_2,rfl,HA,HK2,BK579,HB⟩:=hrel
         cases gk with
         | zero=>exact absurd HA.out (by simp [R05_Check.l0])
         | succ k2=>
          have H:=HA.out;clear HA;simp only [R05_Check.l0] at H;revert H;refine itR ?L27p ?L27n
          case' L27p=>
           intro c201 H;have c201b0:=dT c201;clear c201;replace H:=itN H;obtain ⟨c202,H⟩:=H;have c202b0:=dT c202;clear c202;replace H:=bnA H;obtain ⟨t585,A203,H⟩:=H;revert H;refine itQ ?L28p ?L28n
           case' L28p=>
            rintro ⟨c204b0,c204b1⟩ H;have c205b0:=eq_true (odA:0≤x3_2);replace H:=itN H;obtain ⟨c206,H⟩:=H;have c206b0:=eq_true c206;have c206b1:=dT c206;clear c206;replace H:=bnA H;obtain ⟨t588,A207,H⟩:=H;revert H;refine itR ?L29p ?L29n
            case' L29p=>
             intro c208 H;subst c208;obtain rfl:=sI H;have M16:=trivial;have M17:=trivial;have M18:=trivial;have M19:=trivial
            case' L29n=>
             intro c208 H;replace c208:=Bool.eq_false_iff.mpr c208;subst c208;have H':=aM H;clear H;have M16:=trivial;have M17:=trivial;have M18:=trivial;have M20:=trivial
           case' L28n=>
            rintro ⟨c204b0,c204b1⟩ c204 H;obtain rfl:=sI H;have M16:=trivial;have M17:=trivial;have M21:=trivial
          case' L27n=>
           intro c201 H;have c201b0:=dF c201;clear c201;revert H;refine itQ ?L30p ?L30n
           case' L30p=>
            rintro ⟨c202b0,c202b1⟩ H;revert H;refine itQ ?L31p ?L31n
            case' L31p=>
             rintro ⟨c203b0,c203b1⟩ H;replace H:=bnA H;obtain ⟨t589,A204,H⟩:=H;obtain rfl:=sI H;have M25:=trivial
            case' L31n=>
             rintro ⟨c203b0,c203b1⟩ c203 H;obtain rfl:=sI H;have M26:=trivial
           case' L30n=>
            rintro ⟨c202b0,c202b1⟩ c202 H;replace H:=itN H;obtain ⟨c203,H⟩:=H;have c203b0:=dT c203;have c203b1:decide (1<l0_4.length)=true:=dT (by omega);clear c203;revert H;refine itQ ?L32p ?L32n
            case' L32p=>
             rintro ⟨c204b0,c204b1⟩ H;replace H:=bnA H;obtain ⟨t591,A205,H⟩:=H;obtain rfl:=sI H;have M16:=trivial;have M22:=trivial;have M23:=trivial
            case' L32n=>
             rintro ⟨c204b0,c204b1⟩ c204 H;obtain rfl:=sI H;have M16:=trivial;have M22:=trivial;have M24:=trivial
          all_goals
           case _=>
            obtain ⟨hcz301_0,hcz301_1,hcz301_2,hcz301_3,hcz301_4,hcz301_5,hcz301_6,hcz301_7⟩:=cel8 BK579.out;obtain ⟨hfz301_0,hfz301_1,hfz301_2,hfz301_3,hfz301_4,hfz301_5,hfz301_6,hfz301_7⟩:=frz8 BK579.out
            first
             | clear M16
               (try go_wp2);replace BK579:=aM (blk_drew BK579.out);replace HB:=aM (below_drew1 HB.out)
               first
                | clear M17
                  have p584:0≤(x3_2:Int):=odA;have q584:x3_2<(l0_4.length:Int):=odA;obtain ⟨ad584,e584,hx584_0⟩:=Kd.at_string HR0_4.out x3_2 p584 q584;have hw584_0:=hx584_0
                  cases e584
                  replace hx584_0:=crA hx584_0;replace p584:=eq_true p584;replace q584:=eq_true q584
                  first
                   | clear M18
                     have p587:0≤(x3_2:Int):=odA;have q587:x3_2<(l0_4.length:Int):=odA;obtain ⟨ad587,e587,hx587_0⟩:=Kd.at_string HR0_4.out x3_2 p587 q587;have hw587_0:=hx587_0;obtain rfl:ad584=ad587:=(by injection e587);replace hx587_0:=crA hx587_0;replace p587:=eq_true p587;replace q587:=eq_true q587;refine start_ (n:=19) (S:=fun w'=>w'.cell? ⟨gb579,0,none⟩=some (.string a0_0)∧w'.cell? ⟨gb579,1,none⟩=some (.string a0_1)∧w'.cell? ⟨gb579,2,none⟩=some (.slice A0_2 l0_2.length c0_2)∧w'.cell? ⟨gb579,3,none⟩=some (.slice A0_3 l0_3.length c0_3)∧w'.cell? ⟨gb579,4,none⟩=some (.slice (some ad584) l0_4.length c0_4)∧w'.cell? ⟨gb579,5,none⟩=some (.int .i64 a0_5)∧w'.cell? ⟨gb579,6,none⟩=some (.int .i64 a0_6)∧w'.cell? ⟨gb579,7,none⟩=some (.int .i64 a0_7)∧w'.cell? (ad584.add (x3_2).toNat)=some (.string (rdOf ByteArray.empty l0_4 x3_2))∧w'.cell? (ad584.add (x3_2).toNat)=some (.string (rdOf ByteArray.empty l0_4 x3_2))) (ds:=[]) (mkB 19 0) (by kernel_rfl) rfl rfl ⟨(blk_cell BK579.out 0).trans rfl,(blk_cell BK579.out 1).trans rfl,(blk_cell BK579.out 2).trans rfl,(blk_cell BK579.out 3).trans rfl,(blk_cell BK579.out 4).trans rfl,(blk_cell BK579.out 5).trans rfl,(blk_cell BK579.out 6).trans rfl,(blk_cell BK579.out 7).trans rfl,crA hw584_0,crA hw587_0⟩ (fun hHeld=>?_);refine with_tabW R05_Check.tab6 R05_Check.bits6 (fun HT_ HW_=>?_)
                     generalize wr.drew=w302 at BK579 HB hx584_0 hx587_0 hHeld ⊢
                     refine pureA 0 (some 48) (mkB 19 1) ?_;refine pureA 2 (some 50) (mkB 19 5) ?_;refine takeA 1 (some 49) (mkB 19 7) ?_ rfl (Or.inl ⟨by rfl,by rintro w' ⟨s0,s1,s2,s3,s4,s5,s6,s7,s8,s9⟩;go_simp;with_reducible rfl⟩);refine pureA 3 (some 51) (mkB 19 15) ?_;refine takeA 4 (some 52) (mkB 19 31) ?_ rfl (Or.inl ⟨by rfl,by rintro w' ⟨s0,s1,s2,s3,s4,s5,s6,s7,s8,s9⟩;go_simp;with_reducible rfl⟩);refine oneA 5 (some 53) (mkB 19 63) (fun K hK=>?_);refine goesS Tryz.func43 #[.string (rdOf ByteArray.empty l0_4 x3_2)] ?_
                     with_reducible refine (R02_Check.calls _ _ _ _ A203.out).mono ?_
                     rintro e w303 ⟨rfl,hb⟩;refine ⟨_,rfl,?_⟩;replace BK579:=aM (bkB BK579 hb);replace HB:=aM (below_step (bwA) hb)
                     (try clear hb)
                     obtain ⟨i0304,hi0304,_,hsz304,_⟩:=info_parts info9;obtain ⟨hcut304,hA304,hC304⟩:=print_take_of (P:=Tryz.prog) Value.string (⟨#[]⟩:ByteArray) 28 9 .i64 Tryz.underlying28 hi0304 hsz304 (some ad584) c0_4 l0_4 x3_2 (odA) (odA) HC0_4.out;have HR586:=aM (Kd.C_of_reads (h1:=fun _=>rfl) (hA304 _ (Kd.reads_of_C HR0_4.out)));have HC586:=aM hC304;clear hA304 hC304 hi0304 hsz304;refine hK.out _ _ ⟨(blk_cell BK579.out 0).trans rfl,(blk_cell BK579.out 1).trans rfl,(blk_cell BK579.out 2).trans rfl,(blk_cell BK579.out 3).trans rfl,(blk_cell BK579.out 4).trans rfl,(blk_cell BK579.out 5).trans rfl,(blk_cell BK579.out 6).trans rfl,(blk_cell BK579.out 7).trans rfl,crA hw584_0,crA hw587_0⟩ (fun hHeld=>?_);clear hK K;refine normA ?_;refine pureA 6 (some 54) (mkB 19 127) ?_;refine pureA 7 (some 55) (mkB 19 255) ?_;refine pureA 8 (some 56) (mkB 19 511) ?_;refine pureA 10 (some 58) (mkB 19 1535) ?_;refine pureA 12 (some 60) (mkB 19 5631) ?_;refine pureA 14 (some 62) (mkB 19 22015) ?_;refine takeA 9 (some 57) (mkB 19 22527) ?_ rfl (Or.inl ⟨by rfl,by rintro w' ⟨s0,s1,s2,s3,s4,s5,s6,s7,s8,s9⟩;go_simp;with_reducible rfl⟩);refine pureA 11 (some 59) (mkB 19 24575) ?_;refine takeA 13 (some 61) (mkB 19 32767) ?_ rfl (Or.inl ⟨by rfl,by rintro w' ⟨s0,s1,s2,s3,s4,s5,s6,s7,s8,s9⟩;go_simp;with_reducible rfl⟩);refine pureA 15 (some 63) (mkB 19 65535) ?_;refine takeA 16 (some 64) (mkB 19 131071) ?_ rfl (Or.inl ⟨by rfl,by rintro w' ⟨s0,s1,s2,s3,s4,s5,s6,s7,s8,s9⟩;go_simp;with_reducible rfl⟩);refine oneA 17 (some 65) (mkB 19 262143) (fun K hK=>?_);refine goes_ Tryz.func54 (by kernel_rfl) rfl #[.slice (some ad584) (l0_4.take (x3_2:Int).toNat).length c0_4,.string (rdOf ByteArray.empty l0_4 x3_2)] (by rfl) rfl rfl (by (try simp only [List.map_toArray,List.map_cons,List.map_nil]);first|done|(rw [show (l0_4.take (x3_2:Int).toNat).length=x3_2.toNat from (by rw [List.length_take];have h_:(x3_2:Int)≤(l0_4.length:Int):=odA;omega)]<;>rfl)|rfl|(simp only [List.length_drop,List.length_take];rfl)) ?_
                     with_reducible refine (R05_Has.calls _ _ _ _ _ _ _ ?side1 ?side2 A207.out).mono ?_
                     (case side1=>exact Kd.C_below HR586.out (bwA))
                     (case side2=>exact HC586.out)
                     rintro e w305 ⟨rfl,hb⟩;refine ⟨_,rfl,?_⟩;replace BK579:=aM (bkB BK579 hb);replace HB:=aM (below_step (bwA) hb)
                     (try clear hb)
                     refine hK.out _ _ ⟨(blk_cell BK579.out 0).trans rfl,(blk_cell BK579.out 1).trans rfl,(blk_cell BK579.out 2).trans rfl,(blk_cell BK579.out 3).trans rfl,(blk_cell BK579.out 4).trans rfl,(blk_cell BK579.out 5).trans rfl,(blk_cell BK579.out 6).trans rfl,(blk_cell BK579.out 7).trans rfl,crA hw584_0,crA hw587_0⟩ (fun hHeld=>?_);clear hK K;refine normA ?_;refine pureA 18 (some 66) (mkB 19 524287) ?_;refine done_ (done_of HT_.out (by kernel_rfl)) ?_;try go_wp2
                     first
                      | clear M19
                        go_ret;exact ⟨endA,bwA⟩
                      | clear M20
                        go_roundg k2
                        case measure=>have:=HJ100.out;have:=HK2.out;omega
                        case rel=>exact ⟨(wrap64 (x3_2+1)),(endS),H',⟨by have:=HJ100.out;have:=HK2.out;omega⟩,⟨blkZ⟩,⟨bwA⟩⟩
                   | clear M21
                     refine start_ (n:=19) (S:=fun w'=>w'.cell? ⟨gb579,0,none⟩=some (.string a0_0)∧w'.cell? ⟨gb579,1,none⟩=some (.string a0_1)∧w'.cell? ⟨gb579,2,none⟩=some (.slice A0_2 l0_2.length c0_2)∧w'.cell? ⟨gb579,3,none⟩=some (.slice A0_3 l0_3.length c0_3)∧w'.cell? ⟨gb579,4,none⟩=some (.slice (some ad584) l0_4.length c0_4)∧w'.cell? ⟨gb579,5,none⟩=some (.int .i64 a0_5)∧w'.cell? ⟨gb579,6,none⟩=some (.int .i64 a0_6)∧w'.cell? ⟨gb579,7,none⟩=some (.int .i64 a0_7)∧w'.cell? (ad584.add (x3_2).toNat)=some (.string (rdOf ByteArray.empty l0_4 x3_2))) (ds:=[]) (mkB 19 0) (by kernel_rfl) rfl rfl ⟨(blk_cell BK579.out 0).trans rfl,(blk_cell BK579.out 1).trans rfl,(blk_cell BK579.out 2).trans rfl,(blk_cell BK579.out 3).trans rfl,(blk_cell BK579.out 4).trans rfl,(blk_cell BK579.out 5).trans rfl,(blk_cell BK579.out 6).trans rfl,(blk_cell BK579.out 7).trans rfl,crA hw584_0⟩ (fun hHeld=>?_);refine with_tabW R05_Check.tab6 R05_Check.bits6 (fun HT_ HW_=>?_)
                     generalize wr.drew=w302 at BK579 HB hx584_0 hHeld ⊢
                     refine pureA 0 (some 48) (mkB 19 1) ?_;refine pureA 2 (some 50) (mkB 19 5) ?_;refine takeA 1 (some 49) (mkB 19 7) ?_ rfl (Or.inl ⟨by rfl,by rintro w' ⟨s0,s1,s2,s3,s4,s5,s6,s7,s8⟩;go_simp;with_reducible rfl⟩);refine pureA 3 (some 51) (mkB 19 15) ?_;refine takeA 4 (some 52) (mkB 19 31) ?_ rfl (Or.inl ⟨by rfl,by rintro w' ⟨s0,s1,s2,s3,s4,s5,s6,s7,s8⟩;go_simp;with_reducible rfl⟩);refine oneA 5 (some 53) (mkB 19 63) (fun K hK=>?_);refine goesS Tryz.func43 #[.string (rdOf ByteArray.empty l0_4 x3_2)] ?_
                     with_reducible refine (R02_Check.calls _ _ _ _ A203.out).mono ?_
                     rintro e w303 ⟨rfl,hb⟩;refine ⟨_,rfl,?_⟩;replace BK579:=aM (bkB BK579 hb);replace HB:=aM (below_step (bwA) hb)
                     (try clear hb)
                     refine hK.out _ _ ⟨(blk_cell BK579.out 0).trans rfl,(blk_cell BK579.out 1).trans rfl,(blk_cell BK579.out 2).trans rfl,(blk_cell BK579.out 3).trans rfl,(blk_cell BK579.out 4).trans rfl,(blk_cell BK579.out 5).trans rfl,(blk_cell BK579.out 6).trans rfl,(blk_cell BK579.out 7).trans rfl,crA hw584_0⟩ (fun hHeld=>?_);clear hK K;refine normA ?_;refine pureA 6 (some 54) (mkB 19 127) ?_;refine pureA 7 (some 55) (mkB 19 255) ?_;refine pureU 8 (some 56) (mkB 19 511) ?_;refine pureU 9 (some 57) (mkB 19 1023) ?_;refine pureU 10 (some 58) (mkB 19 2047) ?_;refine pureU 11 (some 59) (mkB 19 4095) ?_;refine pureU 12 (some 60) (mkB 19 8191) ?_;refine pureU 13 (some 61) (mkB 19 16383) ?_;refine pureU 14 (some 62) (mkB 19 32767) ?_;refine pureU 15 (some 63) (mkB 19 65535) ?_;refine pureU 16 (some 64) (mkB 19 131071) ?_;refine pureU 17 (some 65) (mkB 19 262143) ?_;refine pureA 18 (some 66) (mkB 19 524287) ?_;refine done_ (done_of HT_.out (by kernel_rfl)) ?_;(try go_wp2);go_ret;exact ⟨endA,bwA⟩
                | clear M22
                  have p590:0≤(1:Int):=(by omega);have q590:1<(l0_4.length:Int):=odA;obtain ⟨ad590,e590,hx590_0⟩:=Kd.at_string HR0_4.out 1 p590 q590;have hw590_0:=hx590_0
                  (try rw [show ((1:Int)).toNat=1 from rfl] at hw590_0)
                  (try rw [show 1 * 1=1 from rfl] at hw590_0)
                  (try simp only [Nat.reduceMul,Nat.reduceEqDiff,Go.Addr.add,↓reduceIte] at hw590_0)
                  cases e590
                  (try simp only [show (1:Int).toNat=1 from rfl,Nat.reduceMul,Nat.reduceEqDiff,Go.Addr.add,↓reduceIte] at hx590_0)
                  have qi590:(1<l0_4.length)=True:=eq_true (by omega)
                  (try rw [show ((1:Int)).toNat=1 from rfl] at hx590_0)
                  replace hx590_0:=crA hx590_0;replace p590:=eq_true p590;replace q590:=eq_true q590;refine start_ (n:=15) (S:=fun w'=>w'.cell? ⟨gb579,0,none⟩=some (.string a0_0)∧w'.cell? ⟨gb579,1,none⟩=some (.string a0_1)∧w'.cell? ⟨gb579,2,none⟩=some (.slice A0_2 l0_2.length c0_2)∧w'.cell? ⟨gb579,3,none⟩=some (.slice A0_3 l0_3.length c0_3)∧w'.cell? ⟨gb579,4,none⟩=some (.slice (some ad590) l0_4.length c0_4)∧w'.cell? ⟨gb579,5,none⟩=some (.int .i64 a0_5)∧w'.cell? ⟨gb579,6,none⟩=some (.int .i64 a0_6)∧w'.cell? ⟨gb579,7,none⟩=some (.int .i64 a0_7)∧w'.cell? ⟨ad590.block,ad590.off+1,none⟩=some (.string (rdOf ByteArray.empty l0_4 1))) (ds:=[]) (mkB 15 0) (by kernel_rfl) rfl rfl ⟨(blk_cell BK579.out 0).trans rfl,(blk_cell BK579.out 1).trans rfl,(blk_cell BK579.out 2).trans rfl,(blk_cell BK579.out 3).trans rfl,(blk_cell BK579.out 4).trans rfl,(blk_cell BK579.out 5).trans rfl,(blk_cell BK579.out 6).trans rfl,(blk_cell BK579.out 7).trans rfl,crA hw590_0⟩ (fun hHeld=>?_);refine with_tabW R05_Check.tab10 R05_Check.bits10 (fun HT_ HW_=>?_)
                  generalize wr.drew=w302 at BK579 HB hx590_0 hHeld ⊢
                  refine pureA 0 (some 81) (mkB 15 1) ?_;refine pureA 2 (some 83) (mkB 15 5) ?_;refine takeA 1 (some 82) (mkB 15 7) ?_ rfl (Or.inl ⟨by rfl,by rintro w' ⟨s0,s1,s2,s3,s4,s5,s6,s7,s8⟩;go_simp;with_reducible rfl⟩);refine takeA 3 (some 84) (mkB 15 15) ?_ rfl (Or.inl ⟨by rfl,by rintro w' ⟨s0,s1,s2,s3,s4,s5,s6,s7,s8⟩;go_simp;with_reducible rfl⟩);refine pureA 4 (some 85) (mkB 15 31) ?_;refine takeA 5 (some 86) (mkB 15 63) ?_ rfl (Or.inl ⟨by rfl,by rintro w' ⟨s0,s1,s2,s3,s4,s5,s6,s7,s8⟩;go_simp;with_reducible rfl⟩);refine pureA 6 (some 87) (mkB 15 127) ?_;refine pureA 7 (some 88) (mkB 15 255) ?_
                  first
                   | clear M23
                     refine pureA 8 (some 89) (mkB 15 511) ?_;refine pureA 10 (some 91) (mkB 15 1535) ?_;refine takeA 9 (some 90) (mkB 15 2047) ?_ rfl (Or.inl ⟨by rfl,by rintro w' ⟨s0,s1,s2,s3,s4,s5,s6,s7,s8⟩;go_simp;with_reducible rfl⟩);refine takeA 11 (some 92) (mkB 15 4095) ?_ rfl (Or.inl ⟨by rfl,by rintro w' ⟨s0,s1,s2,s3,s4,s5,s6,s7,s8⟩;go_simp;with_reducible rfl⟩);refine oneA 12 (some 93) (mkB 15 8191) (fun K hK=>?_);refine goesS Tryz.func25 #[.slice A0_2 l0_2.length c0_2,.slice A0_3 l0_3.length c0_3] ?_
                     with_reducible refine (R04_Within.calls _ _ _ _ _ _ _ _ _ ?side1 ?side2 ?side3 ?side4 A205.out).mono ?_
                     (case side1=>exact Kd.C_below HR0_2.out (bwA))
                     (case side2=>exact HC0_2.out)
                     (case side3=>exact Kd.C_below HR0_3.out (bwA))
                     (case side4=>exact HC0_3.out)
                     rintro e w303 ⟨rfl,hb⟩;refine ⟨_,rfl,?_⟩;replace BK579:=aM (bkB BK579 hb);replace HB:=aM (below_step (bwA) hb)
                     (try clear hb)
                     refine hK.out _ _ ⟨(blk_cell BK579.out 0).trans rfl,(blk_cell BK579.out 1).trans rfl,(blk_cell BK579.out 2).trans rfl,(blk_cell BK579.out 3).trans rfl,(blk_cell BK579.out 4).trans rfl,(blk_cell BK579.out 5).trans rfl,(blk_cell BK579.out 6).trans rfl,(blk_cell BK579.out 7).trans rfl,crA hw590_0⟩ (fun hHeld=>?_);clear hK K;refine normA ?_;refine pureA 13 (some 94) (mkB 15 16383) ?_;refine pureA 14 (some 2) (mkB 15 32767) ?_;refine done_ (done_of HT_.out (by kernel_rfl)) ?_;(try go_wp2);go_ret;exact ⟨endA,bwA⟩
                   | clear M24
                     refine pureU 8 (some 89) (mkB 15 511) ?_;refine pureU 9 (some 90) (mkB 15 1023) ?_;refine pureU 10 (some 91) (mkB 15 2047) ?_;refine pureU 11 (some 92) (mkB 15 4095) ?_;refine pureU 12 (some 93) (mkB 15 8191) ?_;refine pureA 13 (some 94) (mkB 15 16383) ?_;refine pureA 14 (some 2) (mkB 15 32767) ?_;refine done_ (done_of HT_.out (by kernel_rfl)) ?_;(try go_wp2);go_ret;exact ⟨endA,bwA⟩
             | clear M25
               (try go_wp2_with (first|(go_at_call 57;(with_reducible refine (R04_Same.calls _ _ _ _ _ _ _ _ _ ?side1 ?side2 ?side3 ?side4 A204.out).mono ?_);(case side1=>exact Kd.C_below HR0_2.out (bwA));(case side2=>exact HC0_2.out);(case side3=>exact Kd.C_below HR0_3.out (bwA));(case side4=>exact HC0_3.out);rintro e w' ⟨rfl,⟨nd,rfl⟩⟩)));go_ret;exact ⟨endA,bwA⟩
             | clear M26
               go_wp2;go_ret;exact ⟨endA,bwA⟩
end Go.Proofs.YtpjjbaclphoilaaGreatDoor.A
