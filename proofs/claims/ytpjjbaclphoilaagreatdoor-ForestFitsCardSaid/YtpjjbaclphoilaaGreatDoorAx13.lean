import Derived.Test.YtpjjbaclphoilaaGreatDoorAx0
import Derived.Test.YtpjjbaclphoilaaGreatDoorAx3
import Derived.Test.YtpjjbaclphoilaaGreatDoorAx4
import Derived.Test.YtpjjbaclphoilaaGreatDoorAx5
import Derived.Test.YtpjjbaclphoilaaGreatDoorAx12
namespace Go.Proofs.YtpjjbaclphoilaaGreatDoor.A
open Go.RowKit Go.Proofs.YtpjjbaclphoilaaGreatDoorW.PrintWords Go.Proofs.YtpjjbaclphoilaaGreatDoorW.PrintLast Go.Proofs.YtpjjbaclphoilaaGreatDoorW.PrintMore
attribute [local go_sem] max2_int min2_int max_two min_two max_three min_three max_four min_four   -- for this text's walks alone
set_option linter.unusedVariables false
set_option linter.unusedSimpArgs false
set_option maxHeartbeats 8000000
set_option maxRecDepth 100000
def schema_Attrs.l0:Nat→List (S76)→List (S76)→Int→Int→Option (Bool)
 | 0,_,_,_,_=>none
 | k+1,x0,x5,x6,x7=>if x7<x6 then (if 0≤x7 then (if x7<(x5.length:Int) then ((schema_simple.f k ((rd_T76 x5 x7).f0)).bind fun t455=>(if t455=true then ((value_Check.f ((rd_T76 x5 x7).f1.f0) ((rd_T76 x5 x7).f1.f1) ((rd_T76 x5 x7).f1.f2)).bind fun t456=>(if t456=true then (if x7>0 then (if 0≤(wrap64 (x7-1)) then (if (wrap64 (x7-1))<(x0.length:Int) then ((name_Compare.f k ((rd_T76 x0 (wrap64 (x7-1))).f0) ((rd_T76 x5 x7).f0)).bind fun t458=>(if t458≥0 then (some false) else (schema_Attrs.l0 k x0 x5 x6 (wrap64 (x7+1))))) else (none)) else (none)) else (schema_Attrs.l0 k x0 x5 x6 (wrap64 (x7+1)))) else (some false))) else (some false))) else (none)) else (none)) else (some (decide ((x0.length:Int)≤24)))
def schema_Attrs.f (k:Nat) (l0:List (S76)):Option (Bool):=schema_Attrs.l0 k l0 l0 (l0.length:Int) 0
def schema_Attrs.T4:Bool × List (List Nat × List Nat):=(true,[([],[]),([0],[0]),([1],[1]),([2],[2]),([3,2],[3]),([4],[4]),([5,4],[4,5]),([6,4,4],[4,6]),([7,4],[4,7]),([4,8],[4,8]),([9,7],[9]),([10],[10]),([11,10],[10,11]),([12,10,10],[10,12]),([13],[13]),([13],[13]),([15,13],[13,15]),([14,16,13],[13,14,16]),([17,13],[13,17]),([18,13],[13,18]),([13],[13]),([20,13],[13,20]),([19,21,13,13],[13,19,21]),([22,13],[13,22]),([13,23,10],[10,13,23]),([10,24],[10,24])])
def schema_Attrs.B4:List Nat:=[0,1,3,7,15,31,63,127,255,511,1023,2047,4095,8191,16383,16383,49151,131071,262143,524287,16383,1064959,4194303,8388607,16777215,33554431]
theorem schema_Attrs.tab4:rtab .any (opsOf Tryz.f112 4)=schema_Attrs.T4:=by kernel_rfl
theorem schema_Attrs.bits4:waitsOk schema_Attrs.T4.2 schema_Attrs.B4=true:=by kernel_rfl
theorem schema_Attrs.calls (k:Nat) (A0:Option Addr) (c0:Nat) (l0:List (S76)) (r:Bool) (w:World) (hr0:Kd.C k76 w A0 l0.length l0) (hc0:l0.length≤c0) (hT:Tabs w) (h:schema_Attrs.f k l0=some r):
  Calls Tryz.prog 112 #[.slice A0 l0.length c0] w fun e w'=>e=.returned (.bool r)∧Below w.heap.size w w':=by
 have hu76:=Tryz.underlying76;have hu74:=Tryz.underlying74;have HR0:=aM hr0;have HC0:=aM hc0;clear hr0 hc0;have HB:=aM (Below.refl w.heap.size w);unfold schema_Attrs.f at h;have H:=h;clear h;have HT:=aM hT;clear hT;have H':=aM H;clear H;go_enter Tryz.func112,Tryz.ntmps112;go_wp2
 go_loopg [7] k (fun kq v7 w'=>∃ (x7_1:Int),v7=.int .i64 x7_1∧Aside0 (schema_Attrs.l0 kq l0 l0 (l0.length:Int) x7_1=some r)∧Aside0 (kq≤k)∧Aside0 (Below w.heap.size w w'))
 case atStart=>exact ⟨(0),(endS),H',⟨Nat.le_refl _⟩,⟨bwA⟩⟩
 case round=>
  clear H';(try clear c1);(try clear p2);(try clear c11);obtain ⟨x7_1,rfl,HA,HK1,HB⟩:=hrel
  cases gk with
  | zero=>exact absurd HA.out (by simp [schema_Attrs.l0])
  | succ k1=>
   have H:=HA.out;clear HA;simp only [schema_Attrs.l0] at H;revert H;refine itR ?L9p ?L9n
   case' L9p=>
    intro c101 H;have c101b0:=dT c101;clear c101;replace H:=itN H;obtain ⟨c102,H⟩:=H;have c102b0:=dT c102;clear c102;replace H:=itN H;obtain ⟨c103,H⟩:=H;have c103b0:=dT c103;clear c103;replace H:=bnA H;obtain ⟨t455,A104,H⟩:=H;revert H;refine itR ?L10p ?L10n
    case' L10p=>
     intro c105 H;subst c105;replace H:=bnA H;obtain ⟨t456,A106,H⟩:=H;revert H;refine itR ?L11p ?L11n
     case' L11p=>
      intro c107 H;subst c107;revert H;refine itR ?L12p ?L12n
      case' L12p=>
       intro c108 H;have c108b0:=gtT c108;clear c108;obtain ⟨ji109,hji109⟩:∃ j_:Int,(wrap64 (x7_1-1))=j_:=⟨_,rfl⟩;replace H:(if 0≤(ji109) then (if (ji109)<(l0.length:Int) then ((name_Compare.f k1 ((rd_T76 l0 (ji109)).f0) ((rd_T76 l0 x7_1).f0)).bind fun t458=>(if t458≥0 then (some false) else (schema_Attrs.l0 k1 l0 l0 (l0.length:Int) (wrap64 (x7_1+1))))) else (none)) else (none))=some r:=by first|(rw [hji109] at H;exact H)|(simp only [hji109] at H ⊢;exact H)
       (try rw [hji109] at A104)
       (try rw [hji109] at A106)
       have hji109w:(IntKind.i64.wrap (x7_1-1))=ji109:=(i64_w _).trans hji109;replace H:=itN H;obtain ⟨c110,H⟩:=H;have c110b0:=dT c110;clear c110;replace H:=itN H;obtain ⟨c111,H⟩:=H;have c111b0:=dT c111;clear c111;replace H:=bnA H;obtain ⟨t458,A112,H⟩:=H;revert H;refine itR ?L13p ?L13n
       case' L13p=>
        intro c113 H;have c113b0:=geT c113;clear c113;obtain rfl:=sI H;have M1:=trivial;have M2:=trivial
       case' L13n=>
        intro c113 H;have c113b0:=geF c113;clear c113;have H':=aM H;clear H;have M1:=trivial;have M3:=trivial
      case' L12n=>
       intro c108 H;have c108b0:=gtF c108;clear c108;have H':=aM H;clear H;have M4:=trivial;have M5:=trivial;have M6:=trivial
     case' L11n=>
      intro c107 H;replace c107:=Bool.eq_false_iff.mpr c107;subst c107;obtain rfl:=sI H;have M4:=trivial;have M5:=trivial;have M7:=trivial
    case' L10n=>
     intro c105 H;replace c105:=Bool.eq_false_iff.mpr c105;subst c105;obtain rfl:=sI H;have M4:=trivial;have M8:=trivial
   case' L9n=>
    intro c101 H;have c101b0:=dF c101;clear c101;obtain rfl:=sI H;go_wp2;go_ret;exact ⟨endA,bwA⟩
   all_goals
    case _=>
     have p453:0≤(x7_1:Int):=odA;have q453:x7_1<(l0.length:Int):=odA;obtain ⟨ad453,e453,hx453_0,hx453_1,hx453_2,hx453_3⟩:=at_T76 HR0.out x7_1 p453 q453
     cases e453
     replace hx453_0:=crA hx453_0;replace hx453_1:=crA hx453_1;replace hx453_2:=crA hx453_2;replace hx453_3:=crA hx453_3;replace p453:=eq_true p453;replace q453:=eq_true q453;(try go_wp2_with (first|((with_reducible refine gate_dst (N:=4) rfl ?_);refine boxB 4 #[.string (⟨#[]⟩:ByteArray),.int .i64 0,.int .i64 0,.string (⟨#[]⟩:ByteArray)] 76 HB ?_;clear HB;intro gb454 w201 BK454 GW454 GE454 HB;obtain ⟨hcz202_0,hcz202_1,hcz202_2,hcz202_3⟩:=cel4 BK454.out;obtain ⟨hfz202_0,hfz202_1,hfz202_2,hfz202_3⟩:=frz4 BK454.out)));have n0_:Aside0 (((((w201.setCell ⟨gb454,0,none⟩ (.string ((rd_T76 l0 x7_1).f0))).setCell ⟨gb454,1,none⟩ (.int .i64 ((rd_T76 l0 x7_1).f1.f0))).setCell ⟨gb454,2,none⟩ (.int .i64 ((rd_T76 l0 x7_1).f1.f1))).setCell ⟨gb454,3,none⟩ (.string ((rd_T76 l0 x7_1).f1.f2))).heap[gb454]? = some (.cells #[.string ((rd_T76 l0 x7_1).f0),.int .i64 ((rd_T76 l0 x7_1).f1.f0),.int .i64 ((rd_T76 l0 x7_1).f1.f1),.string ((rd_T76 l0 x7_1).f1.f2)] 76 (0,0))):=⟨blkZ⟩;have n1_:Aside0 (Below w.heap.size w ((((w201.setCell ⟨gb454,0,none⟩ (.string ((rd_T76 l0 x7_1).f0))).setCell ⟨gb454,1,none⟩ (.int .i64 ((rd_T76 l0 x7_1).f1.f0))).setCell ⟨gb454,2,none⟩ (.int .i64 ((rd_T76 l0 x7_1).f1.f1))).setCell ⟨gb454,3,none⟩ (.string ((rd_T76 l0 x7_1).f1.f2)))):=⟨bwA⟩
     (try clear BK454)
     (try clear HB)
     generalize ((((w201.setCell ⟨gb454,0,none⟩ (.string ((rd_T76 l0 x7_1).f0))).setCell ⟨gb454,1,none⟩ (.int .i64 ((rd_T76 l0 x7_1).f1.f0))).setCell ⟨gb454,2,none⟩ (.int .i64 ((rd_T76 l0 x7_1).f1.f1))).setCell ⟨gb454,3,none⟩ (.string ((rd_T76 l0 x7_1).f1.f2)))=w203 at n0_ n1_ ⊢
     have BK454:=n0_;have HB:=n1_;clear n0_ n1_;replace BK454:=aM (blk_drew BK454.out);replace HB:=aM (below_drew1 HB.out)
     first
      | clear M1
        have p457:0≤((ji109):Int):=odA;have q457:(ji109)<(l0.length:Int):=odA;obtain ⟨ad457,e457,hx457_0,hx457_1,hx457_2,hx457_3⟩:=at_T76 HR0.out (ji109) p457 q457;have hw457_3:=hx457_3;have hw457_2:=hx457_2;have hw457_1:=hx457_1;have hw457_0:=hx457_0;obtain rfl:ad453=ad457:=(by injection e457);replace hx457_0:=crA hx457_0;replace hx457_1:=crA hx457_1;replace hx457_2:=crA hx457_2;replace hx457_3:=crA hx457_3;replace p457:=eq_true p457;replace q457:=eq_true q457;refine start_ (n:=26) (S:=fun w'=>w'.cell? ⟨gb454,0,none⟩=some (.string ((rd_T76 l0 x7_1).f0))∧w'.cell? ⟨gb454,1,none⟩=some (.int .i64 ((rd_T76 l0 x7_1).f1.f0))∧w'.cell? ⟨gb454,2,none⟩=some (.int .i64 ((rd_T76 l0 x7_1).f1.f1))∧w'.cell? ⟨gb454,3,none⟩=some (.string ((rd_T76 l0 x7_1).f1.f2))∧w'.cell? (ad453.add (((ji109)).toNat * 4))=some (.string ((rd_T76 l0 (ji109)).f0))∧w'.cell? ⟨(ad453.add (((ji109)).toNat * 4)).block,(ad453.add (((ji109)).toNat * 4)).off+1,none⟩=some (.int .i64 ((rd_T76 l0 (ji109)).f1.f0))∧w'.cell? ⟨(ad453.add (((ji109)).toNat * 4)).block,(ad453.add (((ji109)).toNat * 4)).off+2,none⟩=some (.int .i64 ((rd_T76 l0 (ji109)).f1.f1))∧w'.cell? ⟨(ad453.add (((ji109)).toNat * 4)).block,(ad453.add (((ji109)).toNat * 4)).off+3,none⟩=some (.string ((rd_T76 l0 (ji109)).f1.f2))) (ds:=[]) (mkB 26 0) (by kernel_rfl) rfl rfl ⟨(blk_cell BK454.out 0).trans rfl,(blk_cell BK454.out 1).trans rfl,(blk_cell BK454.out 2).trans rfl,(blk_cell BK454.out 3).trans rfl,crA hw457_0,crA hw457_1,crA hw457_2,crA hw457_3⟩ (fun hHeld=>?_);refine with_tabW schema_Attrs.tab4 schema_Attrs.bits4 (fun HT_ HW_=>?_)
        generalize w203.drew=w204 at BK454 HB hx457_0 hx457_1 hx457_2 hx457_3 hHeld ⊢
        refine pureA 0 (some 12) (mkB 26 1) ?_;refine takeA 1 (some 13) (mkB 26 3) ?_ rfl (Or.inl ⟨by rfl,by rintro w' ⟨s0,s1,s2,s3,s4,s5,s6,s7⟩;go_simp;with_reducible rfl⟩);refine oneA 2 (some 14) (mkB 26 7) (fun K hK=>?_);refine goesS Tryz.func133 #[.string ((rd_T76 l0 x7_1).f0)] ?_
        with_reducible refine (schema_simple.calls _ _ _ _ ?side1 A104.out).mono ?_
        (case side1=>exact Tabs.below HT.out (bwA))
        rintro e w205 ⟨rfl,hb⟩;refine ⟨_,rfl,?_⟩;replace BK454:=aM (bkB BK454 hb);replace HB:=aM (below_step (bwA) hb)
        (try clear hb)
        refine hK.out _ _ ⟨(blk_cell BK454.out 0).trans rfl,(blk_cell BK454.out 1).trans rfl,(blk_cell BK454.out 2).trans rfl,(blk_cell BK454.out 3).trans rfl,crA hw457_0,crA hw457_1,crA hw457_2,crA hw457_3⟩ (fun hHeld=>?_);clear hK K;refine normA ?_;refine pureA 3 (some 15) (mkB 26 15) ?_;refine pureA 4 (some 16) (mkB 26 31) ?_;refine pureA 5 (some 17) (mkB 26 63) ?_;refine takeA 6 (some 18) (mkB 26 127) ?_ rfl (Or.inl ⟨by rfl,by rintro w' ⟨s0,s1,s2,s3,s4,s5,s6,s7⟩;go_simp;with_reducible rfl⟩);refine oneA 7 (some 19) (mkB 26 255) (fun K hK=>?_);refine goesS Tryz.func150 #[.agg #[.int .i64 ((rd_T76 l0 x7_1).f1.f0),.int .i64 ((rd_T76 l0 x7_1).f1.f1),.string ((rd_T76 l0 x7_1).f1.f2)]] ?_
        with_reducible refine (value_Check.calls _ _ _ _ _ ?side1 A106.out).mono ?_
        (case side1=>exact Tabs.below HT.out (bwA))
        rintro e w206 ⟨rfl,hb⟩;refine ⟨_,rfl,?_⟩;replace BK454:=aM (bkB BK454 hb);replace HB:=aM (below_step (bwA) hb)
        (try clear hb)
        refine hK.out _ _ ⟨(blk_cell BK454.out 0).trans rfl,(blk_cell BK454.out 1).trans rfl,(blk_cell BK454.out 2).trans rfl,(blk_cell BK454.out 3).trans rfl,crA hw457_0,crA hw457_1,crA hw457_2,crA hw457_3⟩ (fun hHeld=>?_);clear hK K;refine normA ?_;refine pureA 8 (some 20) (mkB 26 511) ?_;refine pureA 9 (some 21) (mkB 26 1023) ?_;refine pureA 10 (some 22) (mkB 26 2047) ?_;refine pureA 11 (some 23) (mkB 26 4095) ?_;refine pureA 12 (some 24) (mkB 26 8191) ?_;refine pureA 13 (some 25) (mkB 26 16383) ?_;refine pureA 14 (some 26) (mkB 26 32767) ?_;refine pureA 15 (some 27) (mkB 26 65535) ?_;refine pureA 16 (some 28) (mkB 26 131071) ?_;refine pureA 17 (some 29) (mkB 26 262143) ?_;refine pureA 18 (some 30) (mkB 26 524287) ?_;refine pureA 20 (some 32) (mkB 26 1572863) ?_;refine takeA 19 (some 31) (mkB 26 2097151) ?_ rfl (Or.inl ⟨by rfl,by rintro w' ⟨s0,s1,s2,s3,s4,s5,s6,s7⟩;go_simp;with_reducible rfl⟩);refine takeA 21 (some 33) (mkB 26 4194303) ?_ rfl (Or.inl ⟨by rfl,by rintro w' ⟨s0,s1,s2,s3,s4,s5,s6,s7⟩;go_simp;with_reducible rfl⟩);refine oneA 22 (some 34) (mkB 26 8388607) (fun K hK=>?_);refine goes_ Tryz.func59 (by kernel_rfl) rfl #[.string ((rd_T76 l0 (ji109)).f0),.string ((rd_T76 l0 x7_1).f0)] (by rfl) rfl rfl (by (try simp only [List.map_toArray,List.map_cons,List.map_nil]);first|done|(simp only [hji109];rfl)|rfl|(simp only [List.length_drop,List.length_take];rfl)) ?_
        with_reducible refine (name_Compare.calls _ _ _ _ _ ?side1 A112.out).mono ?_
        (case side1=>exact Tabs.below HT.out (bwA))
        rintro e w207 ⟨rfl,hb⟩;refine ⟨_,rfl,?_⟩;replace BK454:=aM (bkB BK454 hb);replace HB:=aM (below_step (bwA) hb)
        (try clear hb)
        refine hK.out _ _ ⟨(blk_cell BK454.out 0).trans rfl,(blk_cell BK454.out 1).trans rfl,(blk_cell BK454.out 2).trans rfl,(blk_cell BK454.out 3).trans rfl,crA hw457_0,crA hw457_1,crA hw457_2,crA hw457_3⟩ (fun hHeld=>?_);clear hK K;refine normA ?_;refine pureA 23 (some 35) (mkB 26 16777215) ?_;refine pureA 24 (some 36) (mkB 26 33554431) ?_;refine pureA 25 (some 37) (mkB 26 67108863) ?_;refine done_ (done_of HT_.out (by kernel_rfl)) ?_;try go_wp2
        first
         | clear M2
           go_ret;exact ⟨by first|rfl|(rw [ne_nil_b];(first|done|rfl))|(simp [errW_none,errW_some]<;>rfl)|(simp only [← hji109];first|rfl|(simp [errW_none,errW_some]<;>rfl))|(simp [*,errW_none,errW_some]<;>rfl),bwA⟩
         | clear M3
           go_roundg k1
           case measure=>have:=HK1.out;omega
           case rel=>exact ⟨(wrap64 (x7_1+1)),(endS),H',⟨by have:=HK1.out;omega⟩,⟨bwA⟩⟩
      | clear M4
        refine start_ (n:=26) (S:=fun w'=>w'.cell? ⟨gb454,0,none⟩=some (.string ((rd_T76 l0 x7_1).f0))∧w'.cell? ⟨gb454,1,none⟩=some (.int .i64 ((rd_T76 l0 x7_1).f1.f0))∧w'.cell? ⟨gb454,2,none⟩=some (.int .i64 ((rd_T76 l0 x7_1).f1.f1))∧w'.cell? ⟨gb454,3,none⟩=some (.string ((rd_T76 l0 x7_1).f1.f2))) (ds:=[]) (mkB 26 0) (by kernel_rfl) rfl rfl ⟨(blk_cell BK454.out 0).trans rfl,(blk_cell BK454.out 1).trans rfl,(blk_cell BK454.out 2).trans rfl,(blk_cell BK454.out 3).trans rfl⟩ (fun hHeld=>?_);refine with_tabW schema_Attrs.tab4 schema_Attrs.bits4 (fun HT_ HW_=>?_)
        generalize w203.drew=w204 at BK454 HB hHeld ⊢
        refine pureA 0 (some 12) (mkB 26 1) ?_;refine takeA 1 (some 13) (mkB 26 3) ?_ rfl (Or.inl ⟨by rfl,by rintro w' ⟨s0,s1,s2,s3⟩;go_simp;with_reducible rfl⟩);refine oneA 2 (some 14) (mkB 26 7) (fun K hK=>?_);refine goesS Tryz.func133 #[.string ((rd_T76 l0 x7_1).f0)] ?_
        with_reducible refine (schema_simple.calls _ _ _ _ ?side1 A104.out).mono ?_
        (case side1=>exact Tabs.below HT.out (bwA))
        rintro e w205 ⟨rfl,hb⟩;refine ⟨_,rfl,?_⟩;replace BK454:=aM (bkB BK454 hb);replace HB:=aM (below_step (bwA) hb)
        (try clear hb)
        refine hK.out _ _ ⟨(blk_cell BK454.out 0).trans rfl,(blk_cell BK454.out 1).trans rfl,(blk_cell BK454.out 2).trans rfl,(blk_cell BK454.out 3).trans rfl⟩ (fun hHeld=>?_);clear hK K;refine normA ?_;refine pureA 3 (some 15) (mkB 26 15) ?_;refine pureA 4 (some 16) (mkB 26 31) ?_
        first
         | clear M5
           refine pureA 5 (some 17) (mkB 26 63) ?_;refine takeA 6 (some 18) (mkB 26 127) ?_ rfl (Or.inl ⟨by rfl,by rintro w' ⟨s0,s1,s2,s3⟩;go_simp;with_reducible rfl⟩);refine oneA 7 (some 19) (mkB 26 255) (fun K hK=>?_);refine goesS Tryz.func150 #[.agg #[.int .i64 ((rd_T76 l0 x7_1).f1.f0),.int .i64 ((rd_T76 l0 x7_1).f1.f1),.string ((rd_T76 l0 x7_1).f1.f2)]] ?_
           with_reducible refine (value_Check.calls _ _ _ _ _ ?side1 A106.out).mono ?_
           (case side1=>exact Tabs.below HT.out (bwA))
           rintro e w206 ⟨rfl,hb⟩;refine ⟨_,rfl,?_⟩;replace BK454:=aM (bkB BK454 hb);replace HB:=aM (below_step (bwA) hb)
           (try clear hb)
           refine hK.out _ _ ⟨(blk_cell BK454.out 0).trans rfl,(blk_cell BK454.out 1).trans rfl,(blk_cell BK454.out 2).trans rfl,(blk_cell BK454.out 3).trans rfl⟩ (fun hHeld=>?_);clear hK K;refine normA ?_;refine pureA 8 (some 20) (mkB 26 511) ?_;refine pureA 9 (some 21) (mkB 26 1023) ?_;refine pureA 10 (some 22) (mkB 26 2047) ?_
           first
            | clear M6
              refine pureA 11 (some 23) (mkB 26 4095) ?_;refine pureA 12 (some 24) (mkB 26 8191) ?_;refine pureA 13 (some 25) (mkB 26 16383) ?_;refine pureU 14 (some 26) (mkB 26 32767) ?_;refine pureU 15 (some 27) (mkB 26 65535) ?_;refine pureU 16 (some 28) (mkB 26 131071) ?_;refine pureU 17 (some 29) (mkB 26 262143) ?_;refine pureU 18 (some 30) (mkB 26 524287) ?_;refine pureU 19 (some 31) (mkB 26 1048575) ?_;refine pureU 20 (some 32) (mkB 26 2097151) ?_;refine pureU 21 (some 33) (mkB 26 4194303) ?_;refine pureU 22 (some 34) (mkB 26 8388607) ?_;refine pureU 23 (some 35) (mkB 26 16777215) ?_;refine pureA 24 (some 36) (mkB 26 33554431) ?_;refine pureA 25 (some 37) (mkB 26 67108863) ?_;refine done_ (done_of HT_.out (by kernel_rfl)) ?_;try go_wp2
              go_roundg k1
              case measure=>have:=HK1.out;omega
              case rel=>exact ⟨(wrap64 (x7_1+1)),(endS),H',⟨by have:=HK1.out;omega⟩,⟨bwA⟩⟩
            | clear M7
              refine pureU 11 (some 23) (mkB 26 4095) ?_;refine pureU 12 (some 24) (mkB 26 8191) ?_;refine pureU 13 (some 25) (mkB 26 16383) ?_;refine pureU 14 (some 26) (mkB 26 32767) ?_;refine pureU 15 (some 27) (mkB 26 65535) ?_;refine pureU 16 (some 28) (mkB 26 131071) ?_;refine pureU 17 (some 29) (mkB 26 262143) ?_;refine pureU 18 (some 30) (mkB 26 524287) ?_;refine pureU 19 (some 31) (mkB 26 1048575) ?_;refine pureU 20 (some 32) (mkB 26 2097151) ?_;refine pureU 21 (some 33) (mkB 26 4194303) ?_;refine pureU 22 (some 34) (mkB 26 8388607) ?_;refine pureU 23 (some 35) (mkB 26 16777215) ?_;refine pureU 24 (some 36) (mkB 26 33554431) ?_;refine pureA 25 (some 37) (mkB 26 67108863) ?_;refine done_ (done_of HT_.out (by kernel_rfl)) ?_;(try go_wp2);go_ret;exact ⟨endA,bwA⟩
         | clear M8
           refine pureU 5 (some 17) (mkB 26 63) ?_;refine pureU 6 (some 18) (mkB 26 127) ?_;refine pureU 7 (some 19) (mkB 26 255) ?_;refine pureU 8 (some 20) (mkB 26 511) ?_;refine pureA 9 (some 21) (mkB 26 1023) ?_;refine pureA 10 (some 22) (mkB 26 2047) ?_;refine pureU 11 (some 23) (mkB 26 4095) ?_;refine pureU 12 (some 24) (mkB 26 8191) ?_;refine pureU 13 (some 25) (mkB 26 16383) ?_;refine pureU 14 (some 26) (mkB 26 32767) ?_;refine pureU 15 (some 27) (mkB 26 65535) ?_;refine pureU 16 (some 28) (mkB 26 131071) ?_;refine pureU 17 (some 29) (mkB 26 262143) ?_;refine pureU 18 (some 30) (mkB 26 524287) ?_;refine pureU 19 (some 31) (mkB 26 1048575) ?_;refine pureU 20 (some 32) (mkB 26 2097151) ?_;refine pureU 21 (some 33) (mkB 26 4194303) ?_;refine pureU 22 (some 34) (mkB 26 8388607) ?_;refine pureU 23 (some 35) (mkB 26 16777215) ?_;refine pureU 24 (some 36) (mkB 26 33554431) ?_;refine pureA 25 (some 37) (mkB 26 67108863) ?_;refine done_ (done_of HT_.out (by kernel_rfl)) ?_;(try go_wp2);go_ret;exact ⟨endA,bwA⟩
def schema_Get.f (l0:List S76) (a1:ByteArray):Option (Int × Int × ByteArray × Bool):=(idxK (fun x:S76=>name_Same.f x.f0 a1) l0 0).bind fun i=>if i<0 then some (0,0,⟨#[]⟩,false) else some ((rd_T76 l0 i).f1.f0,(rd_T76 l0 i).f1.f1,(rd_T76 l0 i).f1.f2,true)
theorem schema_Get1.calls (B:Nat) (s:ByteArray) (x:S76) (cs:List Value) (b:Bool) (w:World) (hT:Tabs w) (hB:B<w.heap.size) (hcell:w.cell? ⟨B,0,none⟩=some (.string s)) (hx:name_Same.f x.f0 s=some b) (hK:k76.K w x cs):
  Calls Tryz.prog 152 #[.agg cs.toArray,.pointer (some ⟨B,0,none⟩)] w fun e w'=>e=.returned (.bool b)∧Below w.heap.size w w':=by
 obtain rfl:=k76_open hK;have cS:=fun W (hb:Below w.heap.size w W)=>name_Same.calls x.f0 s b W (hT.below hb) hx
 have hne:B≠w.heap.size:=by omega
 clear hT hx hK;go_enter Tryz.func152,Tryz.ntmps152;go_wp2_with (go_at_call 60;refine (cS _ ((Below.refl _ w).alloc (Nat.le_refl _) _)).mono ?_;rintro e w' ⟨rfl,hb'⟩);go_ret;exact ⟨rfl,((Below.refl _ w).alloc (Nat.le_refl _) _).trans (hb'.mono (by simp))⟩
theorem schema_Get.calls (A0:Option Addr) (c0:Nat) (l0:List S76) (a1:ByteArray) (r1:Int) (r2:Int) (r3:ByteArray) (r4:Bool) (w:World) (hr0:Kd.C k76 w A0 l0.length l0) (hc0:l0.length≤c0) (hT:Tabs w) (h:schema_Get.f l0 a1=some (r1,r2,r3,r4)):
  Calls Tryz.prog 113 #[.slice A0 l0.length c0,.string a1] w fun e w'=>e=.returned (.tuple #[.agg #[.int .i64 r1,.int .i64 r2,.string r3],.bool r4])∧Below w.heap.size w w':=by
 have inst:Inhabited S76:=⟨z76⟩;unfold schema_Get.f at h;obtain ⟨i,hi,h⟩:=Option.bind_eq_some_iff.1 h;have hin:=idxK_in _ _ _ _ hi;have eg:∀ args w,(callFunc 152 args).run Tryz.prog w=.ok (.enter 152 args) w:=enters_of Tryz.func152 (by kernel_rfl) rfl
 have hcon:=fun W (hb:Below w.heap.size w W) (hB:w.heap.size<W.heap.size) (hcell:W.cell? ⟨w.heap.size,0,none⟩=some (.string a1))=>
  idxAttr (α:=S76) k76 (by decide) Tryz.sizeOf76 (fun x:S76=>name_Same.f x.f0 a1) 152 #[.pointer (some ⟨w.heap.size,0,none⟩)] eg A0 l0.length c0 l0 i W
   (fun W2 x cs b hx hb2 hK=>(schema_Get1.calls w.heap.size a1 x cs b W2 (hT.below (hb.trans (hb2.mono hb.size))) (Nat.lt_of_lt_of_le hB hb2.size) ((hb2.cell (p:=⟨w.heap.size,0,none⟩) hB).trans hcell) hx hK).mono fun e w' ⟨he,hw⟩=>⟨he,hb2.trans (hw.mono hb2.size)⟩)
   (Kd.C_below hr0 hb) hi
 have hA:=fun (h0:¬ i<0) W (hW:Below w.heap.size w W)=>at_T76 (Kd.C_below hr0 hW) i (by omega) (by omega)
 have hle:w.heap.size≤w.heap.size+1:=Nat.le_succ _;clear hi hT eg hr0
 by_cases h0:i<0
 ·rw [if_pos h0] at h
  have h:=sI h;simp only [Prod.mk.injEq] at h;obtain ⟨rfl,rfl,rfl,rfl⟩:=h;clear hin hA;go_enter Tryz.func113,Tryz.ntmps113;go_wp2_with (go_at_call 151;refine (hcon _ (((Below.refl _ w).alloc (Nat.le_refl _) _).alloc (by simp) _) (by simp<;>omega) (by simp)).mono ?_;rintro e w' ⟨rfl,hb'⟩;have hB:=(((Below.refl _ w).alloc (Nat.le_refl _) _).alloc (by simp) _:Below w.heap.size w ((w.alloc (.cells #[.string a1] 9)).alloc (.cells #[.int .i64 0,.int .i64 0,.string ⟨#[]⟩] 74))).trans (hb'.mono (by simp<;>omega));have hg:w'.heap[w.heap.size+1]? = some (.cells #[.int .i64 0,.int .i64 0,.string ⟨#[]⟩] 74 (0,0)):=(hb'.block _ (by simp)).trans (by have q:=heap_alloc_new (w.alloc (.cells #[.string a1] 9)) (.cells #[.int .i64 0,.int .i64 0,.string ⟨#[]⟩] 74 (0,0));rw [show (w.alloc (.cells #[.string a1] 9)).heap.size=w.heap.size+1 from by show (w.heap.push _).size=_;rw [Array.size_push]] at q;exact q);have z0:=(blk_cell hg 0).trans rfl;have f0:=blk_frozen hg 0;have z1:=(blk_cell hg 1).trans rfl;have f1:=blk_frozen hg 1;have z2:=(blk_cell hg 2).trans rfl;have f2:=blk_frozen hg 2;clear hcon hb');refine bodyPost_ret (results_ct rfl _ _ (w.heap.size+1) 74 #[.int .i64 0,.int .i64 0,.string ⟨#[]⟩] (0,0) _ rfl (by refine blk_put (cs:=#[.int .i64 0,.int .i64 0,.string ⟨#[]⟩]) ?_ 2 _ rfl;refine blk_put (cs:=#[.int .i64 0,.int .i64 0,.string ⟨#[]⟩]) ?_ 1 _ rfl;refine blk_put (cs:=#[.int .i64 0,.int .i64 0,.string ⟨#[]⟩]) ?_ 0 _ rfl;  exact hg) Tryz.underlying74 rfl (by kernel_rfl)) rfl ?_;exact ⟨rfl,by repeat (first|exact hB|refine below_set ?_ hle)⟩
 ·rw [if_neg h0] at h
  have h:=sI h;simp only [Prod.mk.injEq] at h;have hA:=hA h0;have hi0:0≤i:=by omega
  have hi1:i<(l0.length:Int):=by omega
  clear hin h0
  generalize rd_T76 l0 i=y at h hA
  obtain ⟨rfl,rfl,rfl,rfl⟩:=h;go_enter Tryz.func113,Tryz.ntmps113;go_wp2_with (go_at_call 151;refine (hcon _ (((Below.refl _ w).alloc (Nat.le_refl _) _).alloc (by simp) _) (by simp<;>omega) (by simp)).mono ?_;rintro e w' ⟨rfl,hb'⟩;have hB:=(((Below.refl _ w).alloc (Nat.le_refl _) _).alloc (by simp) _:Below w.heap.size w ((w.alloc (.cells #[.string a1] 9)).alloc (.cells #[.int .i64 0,.int .i64 0,.string ⟨#[]⟩] 74))).trans (hb'.mono (by simp<;>omega));have hg:w'.heap[w.heap.size+1]? = some (.cells #[.int .i64 0,.int .i64 0,.string ⟨#[]⟩] 74 (0,0)):=(hb'.block _ (by simp)).trans (by have q:=heap_alloc_new (w.alloc (.cells #[.string a1] 9)) (.cells #[.int .i64 0,.int .i64 0,.string ⟨#[]⟩] 74 (0,0));rw [show (w.alloc (.cells #[.string a1] 9)).heap.size=w.heap.size+1 from by show (w.heap.push _).size=_;rw [Array.size_push]] at q;exact q);have z0:=(blk_cell hg 0).trans rfl;have f0:=blk_frozen hg 0;have z1:=(blk_cell hg 1).trans rfl;have f1:=blk_frozen hg 1;have z2:=(blk_cell hg 2).trans rfl;have f2:=blk_frozen hg 2;obtain ⟨ad,rfl,q0,q1,q2,q3⟩:=hA _ hB;clear hcon hb' hA);refine bodyPost_ret (results_ct rfl _ _ (w.heap.size+1) 74 #[.int .i64 (y.f1.f0),.int .i64 (y.f1.f1),.string (y.f1.f2)] (0,0) _ rfl (by refine blk_put (cs:=#[.int .i64 (y.f1.f0),.int .i64 (y.f1.f1),.string ⟨#[]⟩]) ?_ 2 _ rfl;refine blk_put (cs:=#[.int .i64 (y.f1.f0),.int .i64 0,.string ⟨#[]⟩]) ?_ 1 _ rfl;refine blk_put (cs:=#[.int .i64 0,.int .i64 0,.string ⟨#[]⟩]) ?_ 0 _ rfl;  exact hg) Tryz.underlying74 rfl (by kernel_rfl)) rfl ?_;exact ⟨rfl,by repeat (first|exact hB|refine below_set ?_ hle)⟩
end Go.Proofs.YtpjjbaclphoilaaGreatDoor.A
