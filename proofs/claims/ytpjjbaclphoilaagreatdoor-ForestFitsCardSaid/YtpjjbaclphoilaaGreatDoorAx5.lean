import Derived.Test.YtpjjbaclphoilaaGreatDoorAx0
import Derived.Test.YtpjjbaclphoilaaGreatDoorAx1
import Derived.Test.YtpjjbaclphoilaaGreatDoorAx3
import Derived.Test.YtpjjbaclphoilaaGreatDoorAx4
namespace Go.Proofs.YtpjjbaclphoilaaGreatDoor.A
open Go.RowKit Go.Proofs.YtpjjbaclphoilaaGreatDoorW.PrintWords Go.Proofs.YtpjjbaclphoilaaGreatDoorW.PrintLast Go.Proofs.YtpjjbaclphoilaaGreatDoorW.PrintMore
attribute [local go_sem] max2_int min2_int max_two min_two max_three min_three max_four min_four   -- for this text's walks alone
set_option linter.unusedVariables false
set_option linter.unusedSimpArgs false
attribute [local go_sem high] eqA86
set_option maxHeartbeats 8000000
set_option maxRecDepth 100000
def schema_Check.l0:Nat→List (S86)→List (S86)→Int→Int→Option (Bool)
 | 0,_,_,_,_=>none
 | k+1,x0,x5,x6,x7=>if x7<x6 then (if 0≤x7 then (if x7<(x5.length:Int) then ((schema_field.f k ((rd_T86 x5 x7).f0) ((rd_T86 x5 x7).f1) ((rd_T86 x5 x7).f2)).bind fun t145=>(if t145=true then (if x7>0 then (if 0≤(wrap64 (x7-1)) then (if (wrap64 (x7-1))<(x0.length:Int) then ((name_Compare.f k ((rd_T86 x0 (wrap64 (x7-1))).f0) ((rd_T86 x5 x7).f0)).bind fun t147=>(if t147≥0 then (some false) else (schema_Check.l0 k x0 x5 x6 (wrap64 (x7+1))))) else (none)) else (none)) else (schema_Check.l0 k x0 x5 x6 (wrap64 (x7+1)))) else (some false))) else (none)) else (none)) else (some (decide ((x0.length:Int)≤24)))
def schema_Check.f (k:Nat) (l0:List (S86)):Option (Bool):=schema_Check.l0 k l0 l0 (l0.length:Int) 0
def schema_Check.T4:Bool × List (List Nat × List Nat):=(true,[([],[]),([0],[0]),([1],[1]),([2,1],[2]),([3],[3]),([4,3],[3,4]),([5,3,3],[3,5]),([6],[6]),([6],[6]),([8,6],[6,8]),([7,9,6],[6,7,9]),([10,6],[6,10]),([11,6],[6,11]),([6],[6]),([13,6],[6,13]),([12,14,6,6],[6,12,14]),([15,6],[6,15]),([6,16,3],[3,6,16]),([3,17],[3,17])])
def schema_Check.B4:List Nat:=[0,1,3,7,15,31,63,127,127,383,1023,2047,4095,127,8319,32767,65535,131071,262143]
theorem schema_Check.tab4:rtab .any (opsOf Tryz.f45 4)=schema_Check.T4:=by kernel_rfl
theorem schema_Check.bits4:waitsOk schema_Check.T4.2 schema_Check.B4=true:=by kernel_rfl
theorem schema_Check.calls (k:Nat) (A0:Option Addr) (c0:Nat) (l0:List (S86)) (r:Bool) (w:World) (hr0:Kd.C k86 w A0 l0.length l0) (hc0:l0.length≤c0) (hT:Tabs w) (h:schema_Check.f k l0=some r):
  Calls Tryz.prog 45 #[.slice A0 l0.length c0] w fun e w'=>e=.returned (.bool r)∧Below w.heap.size w w':=by
 have hu86:=Tryz.underlying86;have HR0:=aM hr0;have HC0:=aM hc0;clear hr0 hc0;have HB:=aM (Below.refl w.heap.size w);unfold schema_Check.f at h;have H:=h;clear h;have HT:=aM hT;clear hT;have H':=aM H;clear H;go_enter Tryz.func45,Tryz.ntmps45;go_wp2
 go_loopg [7] k (fun kq v7 w'=>∃ (x7_1:Int),v7=.int .i64 x7_1∧Aside0 (schema_Check.l0 kq l0 l0 (l0.length:Int) x7_1=some r)∧Aside0 (kq≤k)∧Aside0 (Below w.heap.size w w'))
 case atStart=>exact ⟨(0),(endS),H',⟨Nat.le_refl _⟩,⟨bwA⟩⟩
 case round=>
  clear H';(try clear p2);(try clear c4);(try clear c45);obtain ⟨x7_1,rfl,HA,HK1,HB⟩:=hrel
  cases gk with
  | zero=>exact absurd HA.out (by simp [schema_Check.l0])
  | succ k1=>
   have H:=HA.out;clear HA;simp only [schema_Check.l0] at H;revert H;refine itR ?L7p ?L7n
   case' L7p=>
    intro c101 H;have c101b0:=dT c101;clear c101;replace H:=itN H;obtain ⟨c102,H⟩:=H;have c102b0:=dT c102;clear c102;replace H:=itN H;obtain ⟨c103,H⟩:=H;have c103b0:=dT c103;clear c103;replace H:=bnA H;obtain ⟨t145,A104,H⟩:=H;revert H;refine itR ?L8p ?L8n
    case' L8p=>
     intro c105 H;subst c105;revert H;refine itR ?L9p ?L9n
     case' L9p=>
      intro c106 H;have c106b0:=gtT c106;clear c106;obtain ⟨ji107,hji107⟩:∃ j_:Int,(wrap64 (x7_1-1))=j_:=⟨_,rfl⟩;replace H:(if 0≤(ji107) then (if (ji107)<(l0.length:Int) then ((name_Compare.f k1 ((rd_T86 l0 (ji107)).f0) ((rd_T86 l0 x7_1).f0)).bind fun t147=>(if t147≥0 then (some false) else (schema_Check.l0 k1 l0 l0 (l0.length:Int) (wrap64 (x7_1+1))))) else (none)) else (none))=some r:=by first|(rw [hji107] at H;exact H)|(simp only [hji107] at H ⊢;exact H)
      (try rw [hji107] at A104)
      have hji107w:(IntKind.i64.wrap (x7_1-1))=ji107:=(i64_w _).trans hji107;replace H:=itN H;obtain ⟨c108,H⟩:=H;have c108b0:=dT c108;clear c108;replace H:=itN H;obtain ⟨c109,H⟩:=H;have c109b0:=dT c109;clear c109;replace H:=bnA H;obtain ⟨t147,A110,H⟩:=H;revert H;refine itR ?L10p ?L10n
      case' L10p=>
       intro c111 H;have c111b0:=geT c111;clear c111;obtain rfl:=sI H;have M1:=trivial;have M2:=trivial
      case' L10n=>
       intro c111 H;have c111b0:=geF c111;clear c111;have H':=aM H;clear H;have M1:=trivial;have M3:=trivial
     case' L9n=>
      intro c106 H;have c106b0:=gtF c106;clear c106;have H':=aM H;clear H;have M4:=trivial;have M5:=trivial
    case' L8n=>
     intro c105 H;replace c105:=Bool.eq_false_iff.mpr c105;subst c105;obtain rfl:=sI H;have M4:=trivial;have M6:=trivial
   case' L7n=>
    intro c101 H;have c101b0:=dF c101;clear c101;obtain rfl:=sI H;go_wp2;go_ret;exact ⟨endA,bwA⟩
   all_goals
    case _=>
     have p143:0≤(x7_1:Int):=odA;have q143:x7_1<(l0.length:Int):=odA;obtain ⟨ad143,e143,hx143_0,hx143_1,hx143_2⟩:=at_T86 HR0.out x7_1 p143 q143
     cases e143
     replace hx143_0:=crA hx143_0;replace hx143_1:=crA hx143_1;replace hx143_2:=crA hx143_2;replace p143:=eq_true p143;replace q143:=eq_true q143;(try go_wp2_with (first|((with_reducible refine gate_dst (N:=4) rfl ?_);refine boxB 4 #[.string (⟨#[]⟩:ByteArray),.int .i64 0,.bool false] 86 HB ?_;clear HB;intro gb144 w201 BK144 GW144 GE144 HB;obtain ⟨hcz202_0,hcz202_1,hcz202_2⟩:=cel3 BK144.out;obtain ⟨hfz202_0,hfz202_1,hfz202_2⟩:=frz3 BK144.out)));have n0_:Aside0 ((((w201.setCell ⟨gb144,0,none⟩ (.string ((rd_T86 l0 x7_1).f0))).setCell ⟨gb144,1,none⟩ (.int .i64 ((rd_T86 l0 x7_1).f1))).setCell ⟨gb144,2,none⟩ (.bool ((rd_T86 l0 x7_1).f2))).heap[gb144]? = some (.cells #[.string ((rd_T86 l0 x7_1).f0),.int .i64 ((rd_T86 l0 x7_1).f1),.bool ((rd_T86 l0 x7_1).f2)] 86 (0,0))):=⟨blkZ⟩;have n1_:Aside0 (Below w.heap.size w (((w201.setCell ⟨gb144,0,none⟩ (.string ((rd_T86 l0 x7_1).f0))).setCell ⟨gb144,1,none⟩ (.int .i64 ((rd_T86 l0 x7_1).f1))).setCell ⟨gb144,2,none⟩ (.bool ((rd_T86 l0 x7_1).f2)))):=⟨bwA⟩
     (try clear BK144)
     (try clear HB)
     generalize (((w201.setCell ⟨gb144,0,none⟩ (.string ((rd_T86 l0 x7_1).f0))).setCell ⟨gb144,1,none⟩ (.int .i64 ((rd_T86 l0 x7_1).f1))).setCell ⟨gb144,2,none⟩ (.bool ((rd_T86 l0 x7_1).f2)))=w203 at n0_ n1_ ⊢
     have BK144:=n0_;have HB:=n1_;clear n0_ n1_;replace BK144:=aM (blk_drew BK144.out);replace HB:=aM (below_drew1 HB.out)
     first
      | clear M1
        have p146:0≤((ji107):Int):=odA;have q146:(ji107)<(l0.length:Int):=odA;obtain ⟨ad146,e146,hx146_0,hx146_1,hx146_2⟩:=at_T86 HR0.out (ji107) p146 q146;have hw146_2:=hx146_2;have hw146_1:=hx146_1;have hw146_0:=hx146_0;obtain rfl:ad143=ad146:=(by injection e146);replace hx146_0:=crA hx146_0;replace hx146_1:=crA hx146_1;replace hx146_2:=crA hx146_2;replace p146:=eq_true p146;replace q146:=eq_true q146;refine start_ (n:=19) (S:=fun w'=>w'.cell? ⟨gb144,0,none⟩=some (.string ((rd_T86 l0 x7_1).f0))∧w'.cell? ⟨gb144,1,none⟩=some (.int .i64 ((rd_T86 l0 x7_1).f1))∧w'.cell? ⟨gb144,2,none⟩=some (.bool ((rd_T86 l0 x7_1).f2))∧w'.cell? (ad143.add (((ji107)).toNat * 3))=some (.string ((rd_T86 l0 (ji107)).f0))∧w'.cell? ⟨(ad143.add (((ji107)).toNat * 3)).block,(ad143.add (((ji107)).toNat * 3)).off+1,none⟩=some (.int .i64 ((rd_T86 l0 (ji107)).f1))∧w'.cell? ⟨(ad143.add (((ji107)).toNat * 3)).block,(ad143.add (((ji107)).toNat * 3)).off+2,none⟩=some (.bool ((rd_T86 l0 (ji107)).f2))) (ds:=[]) (mkB 19 0) (by kernel_rfl) rfl rfl ⟨(blk_cell BK144.out 0).trans rfl,(blk_cell BK144.out 1).trans rfl,(blk_cell BK144.out 2).trans rfl,crA hw146_0,crA hw146_1,crA hw146_2⟩ (fun hHeld=>?_);refine with_tabW schema_Check.tab4 schema_Check.bits4 (fun HT_ HW_=>?_)
        generalize w203.drew=w204 at BK144 HB hx146_0 hx146_1 hx146_2 hHeld ⊢
        refine takeA 0 (some 12) (mkB 19 1) ?_ rfl (Or.inl ⟨by rfl,by rintro w' ⟨s0,s1,s2,s3,s4,s5⟩;go_simp;with_reducible rfl⟩);refine oneA 1 (some 13) (mkB 19 3) (fun K hK=>?_);refine goesS Tryz.func93 #[.agg #[.string ((rd_T86 l0 x7_1).f0),.int .i64 ((rd_T86 l0 x7_1).f1),.bool ((rd_T86 l0 x7_1).f2)]] ?_
        with_reducible refine (schema_field.calls _ _ _ _ _ _ ?side1 A104.out).mono ?_
        (case side1=>exact Tabs.below HT.out (bwA))
        rintro e w205 ⟨rfl,hb⟩;refine ⟨_,rfl,?_⟩;replace BK144:=aM (bkB BK144 hb);replace HB:=aM (below_step (bwA) hb)
        (try clear hb)
        refine hK.out _ _ ⟨(blk_cell BK144.out 0).trans rfl,(blk_cell BK144.out 1).trans rfl,(blk_cell BK144.out 2).trans rfl,crA hw146_0,crA hw146_1,crA hw146_2⟩ (fun hHeld=>?_);clear hK K;refine normA ?_;refine pureA 2 (some 14) (mkB 19 7) ?_;refine pureA 3 (some 15) (mkB 19 15) ?_;refine pureA 4 (some 16) (mkB 19 31) ?_;refine pureA 5 (some 17) (mkB 19 63) ?_;refine pureA 6 (some 18) (mkB 19 127) ?_;refine pureA 7 (some 19) (mkB 19 255) ?_;refine pureA 8 (some 20) (mkB 19 511) ?_;refine pureA 9 (some 21) (mkB 19 1023) ?_;refine pureA 10 (some 22) (mkB 19 2047) ?_;refine pureA 11 (some 23) (mkB 19 4095) ?_;refine pureA 13 (some 25) (mkB 19 12287) ?_;refine takeA 12 (some 24) (mkB 19 16383) ?_ rfl (Or.inl ⟨by rfl,by rintro w' ⟨s0,s1,s2,s3,s4,s5⟩;go_simp;with_reducible rfl⟩);refine takeA 14 (some 26) (mkB 19 32767) ?_ rfl (Or.inl ⟨by rfl,by rintro w' ⟨s0,s1,s2,s3,s4,s5⟩;go_simp;with_reducible rfl⟩);refine oneA 15 (some 27) (mkB 19 65535) (fun K hK=>?_);refine goes_ Tryz.func59 (by kernel_rfl) rfl #[.string ((rd_T86 l0 (ji107)).f0),.string ((rd_T86 l0 x7_1).f0)] (by rfl) rfl rfl (by (try simp only [List.map_toArray,List.map_cons,List.map_nil]);first|done|(simp only [hji107];rfl)|rfl|(simp only [List.length_drop,List.length_take];rfl)) ?_
        with_reducible refine (name_Compare.calls _ _ _ _ _ ?side1 A110.out).mono ?_
        (case side1=>exact Tabs.below HT.out (bwA))
        rintro e w206 ⟨rfl,hb⟩;refine ⟨_,rfl,?_⟩;replace BK144:=aM (bkB BK144 hb);replace HB:=aM (below_step (bwA) hb)
        (try clear hb)
        refine hK.out _ _ ⟨(blk_cell BK144.out 0).trans rfl,(blk_cell BK144.out 1).trans rfl,(blk_cell BK144.out 2).trans rfl,crA hw146_0,crA hw146_1,crA hw146_2⟩ (fun hHeld=>?_);clear hK K;refine normA ?_;refine pureA 16 (some 28) (mkB 19 131071) ?_;refine pureA 17 (some 29) (mkB 19 262143) ?_;refine pureA 18 (some 30) (mkB 19 524287) ?_;refine done_ (done_of HT_.out (by kernel_rfl)) ?_;try go_wp2
        first
         | clear M2
           go_ret;exact ⟨by first|rfl|(rw [ne_nil_b];(first|done|rfl))|(simp [errW_none,errW_some]<;>rfl)|(simp only [← hji107];first|rfl|(simp [errW_none,errW_some]<;>rfl))|(simp [*,errW_none,errW_some]<;>rfl),bwA⟩
         | clear M3
           go_roundg k1
           case measure=>have:=HK1.out;omega
           case rel=>exact ⟨(wrap64 (x7_1+1)),(endS),H',⟨by have:=HK1.out;omega⟩,⟨bwA⟩⟩
      | clear M4
        refine start_ (n:=19) (S:=fun w'=>w'.cell? ⟨gb144,0,none⟩=some (.string ((rd_T86 l0 x7_1).f0))∧w'.cell? ⟨gb144,1,none⟩=some (.int .i64 ((rd_T86 l0 x7_1).f1))∧w'.cell? ⟨gb144,2,none⟩=some (.bool ((rd_T86 l0 x7_1).f2))) (ds:=[]) (mkB 19 0) (by kernel_rfl) rfl rfl (ce3 BK144.out) (fun hHeld=>?_);refine with_tabW schema_Check.tab4 schema_Check.bits4 (fun HT_ HW_=>?_)
        generalize w203.drew=w204 at BK144 HB hHeld ⊢
        refine takeA 0 (some 12) (mkB 19 1) ?_ rfl (Or.inl ⟨by rfl,by rintro w' ⟨s0,s1,s2⟩;go_simp;with_reducible rfl⟩);refine oneA 1 (some 13) (mkB 19 3) (fun K hK=>?_);refine goesS Tryz.func93 #[.agg #[.string ((rd_T86 l0 x7_1).f0),.int .i64 ((rd_T86 l0 x7_1).f1),.bool ((rd_T86 l0 x7_1).f2)]] ?_
        with_reducible refine (schema_field.calls _ _ _ _ _ _ ?side1 A104.out).mono ?_
        (case side1=>exact Tabs.below HT.out (bwA))
        rintro e w205 ⟨rfl,hb⟩;refine ⟨_,rfl,?_⟩;replace BK144:=aM (bkB BK144 hb);replace HB:=aM (below_step (bwA) hb)
        (try clear hb)
        refine hK.out _ _ (ce3 BK144.out) (fun hHeld=>?_);clear hK K;refine normA ?_;refine pureA 2 (some 14) (mkB 19 7) ?_;refine pureA 3 (some 15) (mkB 19 15) ?_
        first
         | clear M5
           refine pureA 4 (some 16) (mkB 19 31) ?_;refine pureA 5 (some 17) (mkB 19 63) ?_;refine pureA 6 (some 18) (mkB 19 127) ?_;refine pureU 7 (some 19) (mkB 19 255) ?_;refine pureU 8 (some 20) (mkB 19 511) ?_;refine pureU 9 (some 21) (mkB 19 1023) ?_;refine pureU 10 (some 22) (mkB 19 2047) ?_;refine pureU 11 (some 23) (mkB 19 4095) ?_;refine pureU 12 (some 24) (mkB 19 8191) ?_;refine pureU 13 (some 25) (mkB 19 16383) ?_;refine pureU 14 (some 26) (mkB 19 32767) ?_;refine pureU 15 (some 27) (mkB 19 65535) ?_;refine pureU 16 (some 28) (mkB 19 131071) ?_;refine pureA 17 (some 29) (mkB 19 262143) ?_;refine pureA 18 (some 30) (mkB 19 524287) ?_;refine done_ (done_of HT_.out (by kernel_rfl)) ?_;try go_wp2
           go_roundg k1
           case measure=>have:=HK1.out;omega
           case rel=>exact ⟨(wrap64 (x7_1+1)),(endS),H',⟨by have:=HK1.out;omega⟩,⟨bwA⟩⟩
         | clear M6
           refine pureU 4 (some 16) (mkB 19 31) ?_;refine pureU 5 (some 17) (mkB 19 63) ?_;refine pureU 6 (some 18) (mkB 19 127) ?_;refine pureU 7 (some 19) (mkB 19 255) ?_;refine pureU 8 (some 20) (mkB 19 511) ?_;refine pureU 9 (some 21) (mkB 19 1023) ?_;refine pureU 10 (some 22) (mkB 19 2047) ?_;refine pureU 11 (some 23) (mkB 19 4095) ?_;refine pureU 12 (some 24) (mkB 19 8191) ?_;refine pureU 13 (some 25) (mkB 19 16383) ?_;refine pureU 14 (some 26) (mkB 19 32767) ?_;refine pureU 15 (some 27) (mkB 19 65535) ?_;refine pureU 16 (some 28) (mkB 19 131071) ?_;refine pureU 17 (some 29) (mkB 19 262143) ?_;refine pureA 18 (some 30) (mkB 19 524287) ?_;refine done_ (done_of HT_.out (by kernel_rfl)) ?_;(try go_wp2);go_ret;exact ⟨endA,bwA⟩
def forest_count.f (a0:Int):Option (Bool):=if a0≥1 then (some (decide (a0≤1099511627775))) else (some false)
theorem forest_count.calls (a0:Int) (r:Bool) (w:World) (h:forest_count.f a0=some r):
  Calls Tryz.prog 94 #[.int .i64 a0] w fun e w'=>e=.returned (.bool r)∧Drawn0 w w':=by
 unfold forest_count.f at h;have H:=h;clear h;revert H;refine itR ?L1p ?L1n
 case' L1p=>
  intro c2 H;have c2b0:=geT c2;clear c2;obtain rfl:=sI H
 case' L1n=>
  intro c2 H;have c2b0:=geF c2;clear c2;obtain rfl:=sI H
 all_goals
  case _=>
   go_enter Tryz.func94,Tryz.ntmps94;go_wp2;go_ret;exact ⟨endS,drA⟩
def forest_IsID.f (a0_0:Int) (a0_1:Int) (a0_2:Int):Option (Bool):=if a0_0≥1 then (if a0_0≤15 then ((forest_count.f a0_1).bind fun t149=>(if t149=true then ((forest_count.f a0_2).bind fun t150=>(some t150)) else (some false))) else (some false)) else (some false)
theorem forest_IsID.calls (a0_0:Int) (a0_1:Int) (a0_2:Int) (r:Bool) (w:World) (h:forest_IsID.f a0_0 a0_1 a0_2=some r):
  Calls Tryz.prog 46 #[.agg #[.int .i64 a0_0,.int .i64 a0_1,.int .i64 a0_2]] w fun e w'=>e=.returned (.bool r)∧Below w.heap.size w w':=by
 have hu25:=Tryz.underlying25;have HB:=aM (Below.refl w.heap.size w);unfold forest_IsID.f at h;have H:=h;clear h;revert H;refine itR ?L5p ?L5n
 case' L5p=>
  intro c2 H;have c2b0:=geT c2;clear c2;revert H;refine itR ?L6p ?L6n
  case' L6p=>
   intro c3 H;have c3b0:=dT c3;clear c3;replace H:=bnA H;obtain ⟨t149,A4,H⟩:=H;revert H;refine itR ?L7p ?L7n
   case' L7p=>
    intro c5 H;subst c5;replace H:=bnA H;obtain ⟨t150,A6,H⟩:=H;obtain rfl:=sI H;have M1:=trivial;have M2:=trivial
   case' L7n=>
    intro c5 H;replace c5:=Bool.eq_false_iff.mpr c5;subst c5;obtain rfl:=sI H;have M1:=trivial;have M3:=trivial
  case' L6n=>
   intro c3 H;have c3b0:=dF c3;clear c3;obtain rfl:=sI H;have M4:=trivial
 case' L5n=>
  intro c2 H;have c2b0:=geF c2;clear c2;obtain rfl:=sI H;have M4:=trivial
 all_goals
  case _=>
   go_enter Tryz.func46,Tryz.ntmps46;go_wp2_with (first|((with_reducible refine gate_dst (N:=1) rfl ?_);refine boxB 1 #[.int .i64 a0_0,.int .i64 a0_1,.int .i64 a0_2] 25 HB ?_;clear HB;intro gb148 w101 BK148 GW148 GE148 HB;obtain ⟨hcz102_0,hcz102_1,hcz102_2⟩:=cel3 BK148.out;obtain ⟨hfz102_0,hfz102_1,hfz102_2⟩:=frz3 BK148.out;apply stopA;(case other=>exact trivial)))
   case _=>
    first
     | clear M1
       go_wp2_with (first|(go_at_call 94;(with_reducible refine (forest_count.calls _ _ _ A4.out).mono ?_);rintro e w' ⟨rfl,⟨nd,rfl⟩⟩;apply stopA;(case other=>exact trivial)))
       case _=>
        first
         | clear M2
           (try go_wp2_with (first|(go_at_call 94;(with_reducible refine (forest_count.calls _ _ _ A6.out).mono ?_);rintro e w' ⟨rfl,⟨nd,rfl⟩⟩)));go_ret;exact ⟨endA,bwA⟩
         | clear M3
           (try go_wp2_with (fail))
           go_ret;exact ⟨endA,bwA⟩
     | clear M4
       (try go_wp2_with (fail))
       go_ret;exact ⟨endA,bwA⟩
def api_Field_64.l0:Nat→List (S86)→List (S86)→Int→Int→Option (Bool)
 | 0,_,_,_,_=>none
 | k+1,x0,x1,x12,x13=>if x13<x12 then (if 0≤x13 then (if x13<(x0.length:Int) then (if x13<(x1.length:Int) then (if (!((((rd_T86 x0 x13).f0).toList) == (((rd_T86 x1 x13).f0).toList)) || (!(((rd_T86 x0 x13).f1) == ((rd_T86 x1 x13).f1)) || (!(((rd_T86 x0 x13).f2) == ((rd_T86 x1 x13).f2)))))=true then (some false) else (api_Field_64.l0 k x0 x1 x12 (wrap64 (x13+1)))) else (none)) else (none)) else (none)) else (some true)
def api_Field_64.f (k:Nat) (l0:List (S86)) (l1:List (S86)):Option (Bool):=if (l0.length:Int)=(l1.length:Int) then (api_Field_64.l0 k l0 l1 (l0.length:Int) 0) else (some false)
theorem api_Field_64.calls (k:Nat) (A0:Option Addr) (c0:Nat) (l0:List (S86)) (A1:Option Addr) (c1:Nat) (l1:List (S86)) (r:Bool) (w:World) (hr0:Kd.C k86 w A0 l0.length l0) (hc0:l0.length≤c0) (hr1:Kd.C k86 w A1 l1.length l1) (hc1:l1.length≤c1) (h:api_Field_64.f k l0 l1=some r):
  Calls Tryz.prog 64 #[.slice A0 l0.length c0,.slice A1 l1.length c1] w fun e w'=>e=.returned (.bool r)∧Drawn0 w w':=by
 have hu86:=Tryz.underlying86;have HR0:=aM hr0;have HC0:=aM hc0;clear hr0 hc0;have HR1:=aM hr1;have HC1:=aM hc1;clear hr1 hc1;unfold api_Field_64.f at h;have H:=h;clear h;revert H;refine itR ?L7p ?L7n
 case' L7p=>
  intro c3 H;obtain ⟨c3b0,c3b1⟩:=fcE c3;have c3b2:(l0.length == l1.length)=true:=by first|simpa using c3|(simp at c3 ⊢;omega)
  clear c3;have H':=aM H;clear H;have M5:=trivial
 case' L7n=>
  intro c3 H;obtain ⟨c3b0,c3b1⟩:=fcN c3;have c3b2:(l0.length == l1.length)=false:=by first|simpa using c3|(simp at c3 ⊢;omega)
  obtain rfl:=sI H;have M6:=trivial
 all_goals
  case _=>
   go_enter Tryz.func64,Tryz.ntmps64;go_wp2;repeat (go_quiet (fail);try go_wp2)
   first
    | clear M5
      go_loopg [13] k (fun kq v13 w'=>∃ (x13_1:Int),v13=.int .i64 x13_1∧Aside0 (api_Field_64.l0 kq l0 l1 (l0.length:Int) x13_1=some r)∧Aside0 (kq≤k)∧Drawn0 w w')
      case atStart=>exact ⟨(0),(endS),H',⟨Nat.le_refl _⟩,drA⟩
      case round=>
       clear H';(try clear c1);(try clear p2);(try clear c3);(try clear c3b0);(try clear c3b1);(try clear c3b2);(try clear c6);(try clear c64);obtain ⟨x13_1,rfl,HA,HK1,⟨m1,rfl⟩⟩:=hrel
       cases gk with
       | zero=>exact absurd HA.out (by simp [api_Field_64.l0])
       | succ k1=>
        have H:=HA.out;clear HA;simp only [api_Field_64.l0] at H;revert H;refine itR ?L3p ?L3n
        case' L3p=>
         intro c101 H;have c101b0:=dT c101;clear c101;replace H:=itN H;obtain ⟨c102,H⟩:=H;have c102b0:=dT c102;clear c102;replace H:=itN H;obtain ⟨c103,H⟩:=H;have c103b0:=dT c103;clear c103;replace H:=itN H;obtain ⟨c104,H⟩:=H;have c104b0:=dT c104;clear c104;revert H;refine itR ?L4p ?L4n
         case' L4p=>
          intro c105 H;have c105b0:(!((((rd_T86 l0 x13_1).f0).toList) == (((rd_T86 l1 x13_1).f0).toList)) || (!(((rd_T86 l0 x13_1).f1) == ((rd_T86 l1 x13_1).f1)) || (!(((rd_T86 l0 x13_1).f2) == ((rd_T86 l1 x13_1).f2)))))=true:=c105;clear c105;obtain rfl:=sI H;have M1:=trivial
         case' L4n=>
          intro c105 H;have c105b0:(!((((rd_T86 l0 x13_1).f0).toList) == (((rd_T86 l1 x13_1).f0).toList)) || (!(((rd_T86 l0 x13_1).f1) == ((rd_T86 l1 x13_1).f1)) || (!(((rd_T86 l0 x13_1).f2) == ((rd_T86 l1 x13_1).f2)))))=false:=by simpa using c105
          clear c105;have H':=aM H;clear H;have M2:=trivial
        case' L3n=>
         intro c101 H;have c101b0:=dF c101;clear c101;obtain rfl:=sI H;go_wp2;(repeat (go_quiet (fail);try go_wp2));go_ret;exact ⟨endS,drA⟩
        all_goals
         case _=>
          have p151:0≤(x13_1:Int):=odA;have q151:x13_1<(l0.length:Int):=odA;obtain ⟨ad151,e151,hx151_0,hx151_1,hx151_2⟩:=at_T86 HR0.out x13_1 p151 q151
          cases e151
          replace p151:=eq_true p151;replace q151:=eq_true q151;have p152:0≤(x13_1:Int):=odA;have q152:x13_1<(l1.length:Int):=odA;obtain ⟨ad152,e152,hx152_0,hx152_1,hx152_2⟩:=at_T86 HR1.out x13_1 p152 q152
          cases e152
          replace p152:=eq_true p152;replace q152:=eq_true q152;go_wp2;repeat (go_quiet (fail);try go_wp2)
          first
           | clear M1
             go_ret;exact ⟨endS,drA⟩
           | clear M2
             go_roundg k1
             case measure=>have:=HK1.out;omega
             case rel=>exact ⟨(wrap64 (x13_1+1)),(endS),H',⟨by have:=HK1.out;omega⟩,drA⟩
    | clear M6
      go_ret;exact ⟨endS,drA⟩
def name_Same.f (a0:ByteArray) (a1:ByteArray):Option (Bool):=(name_Fold.f a0).bind fun t153=>((name_Fold.f a1).bind fun t154=>(some (t153.toList == t154.toList)))
theorem name_Same.calls (a0:ByteArray) (a1:ByteArray) (r:Bool) (w:World) (hT:Tabs w) (h:name_Same.f a0 a1=some r):
  Calls Tryz.prog 60 #[.string a0,.string a1] w fun e w'=>e=.returned (.bool r)∧Below w.heap.size w w':=by
 have HB:=aM (Below.refl w.heap.size w);unfold name_Same.f at h;have H:=h;clear h;have HT:=aM hT;clear hT;replace H:=Option.bind_eq_some_iff.mp H;obtain ⟨t153,A30,H⟩:=H;replace H:((name_Fold.f a1).bind fun t154=>(some (t153.toList == t154.toList)))=some r:=H;have A3:=aM A30;clear A30;replace H:=Option.bind_eq_some_iff.mp H;obtain ⟨t154,A40,H⟩:=H;replace H:(some (t153.toList == t154.toList))=some r:=H;have A4:=aM A40;clear A40;obtain rfl:=sI H;go_enter Tryz.func60,Tryz.ntmps60;go_wp2_with (first|((with_reducible refine gate_callee (f:=104) rfl ?_);refine goesA (some 6) Tryz.func104 #[.string a0] ?_;(with_reducible refine (name_Fold.calls a0 t153 _ ?side1 A3.out).mono ?_);(case side1=>exact Tabs.below HT.out (bwA));rintro e w101 ⟨rfl,hb⟩;refine ⟨_,rfl,?_⟩;have n0_:=aM (below_step (bwA) hb);clear HB;have HB:=n0_;clear n0_;(try clear hb);(try clear hb2);(try clear hk);(try clear hi))|((with_reducible refine gate_callee (f:=104) rfl ?_);refine goesA (some 8) Tryz.func104 #[.string a1] ?_;(with_reducible refine (name_Fold.calls a1 t154 _ ?side1 A4.out).mono ?_);(case side1=>exact Tabs.below HT.out (bwA));rintro e w102 ⟨rfl,hb⟩;refine ⟨_,rfl,?_⟩;have n0_:=aM (below_step (bwA) hb);clear HB;have HB:=n0_;clear n0_;(try clear hb);(try clear hb2);(try clear hk);(try clear hi)));go_ret;exact ⟨endA,bwA⟩
theorem idxStr (p:ByteArray→Option Bool) (g:Nat) (lb:Array Value) (eg:∀ args w,(callFunc g args).run Tryz.prog w=.ok (.enter g args) w) (A:Option Addr) (n c:Nat) (zs:List ByteArray) (r:Int) (w:World)
  (hp:∀ (W:World) (x:ByteArray) (b:Bool),p x=some b→Below w.heap.size w W→Calls Tryz.prog g (#[.string x]++lb) W fun e w'=>e=.returned (.bool b)∧Below w.heap.size w w')
  (hC:Kd.C Kd.string w A n zs) (hr:idxK p zs 0=some r):
  Calls Tryz.prog 135 #[.slice A n c,.func (.func g) #[] lb] w fun e w'=>e=.returned (.int .i64 r)∧Below w.heap.size w w':=by
 have hz:=hC.1;have hbig:=hC.2.1
 rcases Nat.eq_zero_or_pos n with h0|hn
 ·subst h0
  obtain rfl:zs=[]:=List.eq_nil_of_length_eq_zero hz;obtain rfl:(-1:Int)=r:=sI hr;clear hp hC hz hbig hr;go_enter Tryz.func135,Tryz.ntmps135;go_wp2
  go_loopg [5,8] 0 (fun _ _ s8 wr=>s8=.int .i64 0∧wr=w)
  case atStart=>exact ⟨rfl,rfl⟩
  case round=>
   obtain ⟨rfl,rfl⟩:=hrel;go_wp2;go_ret;exact ⟨rfl,Below.refl _ _⟩
 obtain ⟨b,off,rfl,hb,hc⟩:=Kd.C_addr hC hn (by decide);have HX:=aM (fun (i:Int) (h0:0≤i) (h1:i<(n:Int)) (W:World) (hW:Below w.heap.size w W)=>Kd.foot_string (Kd.C_below hC hW) i h0 h1);clear hc hC
 generalize (⟨b,off,none⟩:Addr)=ad at HX ⊢
 have HR:=aM hr;have HZ:=aM hz;clear hr hz;go_enter Tryz.func135,Tryz.ntmps135;go_wp2
 go_loopg [5,8] n (fun gg _ s8 wr=>∃ kk:Nat,kk≤n∧n-kk≤gg∧s8=.int .i64 kk∧Aside (Below w.heap.size w wr)∧Aside (idxK p (zs.drop kk) kk=some r))
 case atStart=>exact ⟨0,Nat.zero_le _,by omega,rfl,Below.refl _ w,by have:=HR.out;exact this⟩
 case round=>
  obtain ⟨kk,hkk,hg,rfl,BW,A⟩:=hrel;have hz:=HZ.out
  by_cases hlt:kk<n
  ·have hltz:(kk:Int)<(n:Int):=by omega
   have hjz:kk<zs.length:=by omega
   have x0:=HX.out kk (by omega) hltz wr BW.out
   have hrd:rdOf ByteArray.empty zs (kk:Int)=zs[kk]:=by
    unfold rdOf;rw [Int.toNat_natCast,List.getD_eq_getElem?_getD,List.getElem?_eq_getElem hjz];rfl
   rw [hrd,Int.toNat_natCast] at x0;have hA:=A.out;rw [List.drop_eq_getElem_cons hjz,idxK] at hA
   generalize zs[kk]=y at hA x0 hrd
   obtain ⟨q,hq,hA⟩:=Option.bind_eq_some_iff.1 hA;have hcall:=hp wr y q hq BW.out;clear hp hz hjz hq hrd
   cases q with
   | true=>
    rw [if_pos rfl] at hA;obtain rfl:=sI hA;go_wp2_with (go_at_fn g;refine hcall.mono ?_;rintro e w' ⟨rfl,hb'⟩);go_ret;exact ⟨rfl,hb'⟩
   | false=>
    rw [if_neg (by decide)] at hA;have HA:=aM hA;clear hA A;go_wp2_with (go_at_fn g;refine hcall.mono ?_;rintro e w' ⟨rfl,hb'⟩)
    go_roundg (n-(kk+1))
    case measure=>omega
    case rel=>exact ⟨kk+1,by omega,by omega,by go_num,hb',HA.out⟩
  ·have hltz:¬ (kk:Int)<(n:Int):=by omega
   have:kk=n:=by omega
   subst this;have hA:=A.out;rw [List.drop_of_length_le (by omega),idxK] at hA;obtain rfl:=sI hA;clear hA A hz;go_wp2;go_ret;exact ⟨rfl,BW.out⟩
theorem hasStr (p:ByteArray→Option Bool) (g:Nat) (lb:Array Value) (eg:∀ args w,(callFunc g args).run Tryz.prog w=.ok (.enter g args) w) (A:Option Addr) (n c:Nat) (zs:List ByteArray) (r:Int) (w:World)
  (hp:∀ (W:World) (x:ByteArray) (b:Bool),p x=some b→Below w.heap.size w W→Calls Tryz.prog g (#[.string x]++lb) W fun e w'=>e=.returned (.bool b)∧Below w.heap.size w w')
  (hC:Kd.C Kd.string w A n zs) (hr:idxK p zs 0=some r):
  Calls Tryz.prog 95 #[.slice A n c,.func (.func g) #[] lb] w fun e w'=>e=.returned (.bool (decide (0≤r)))∧Below w.heap.size w w':=by
 have hcon:=idxStr p g lb eg A n c zs r w hp hC hr;clear hp hC hr;go_enter Tryz.func95,Tryz.ntmps95;go_wp2_with (go_at_call 135;refine hcon.mono ?_;rintro e w' ⟨rfl,hb'⟩);go_ret;exact ⟨rfl,hb'⟩
theorem calls_eq {P:Program} {f:FuncId} {a b:Array Value} {w:World} {Q:Ending→World→Prop} (e:a=b) (h:Calls P f a w Q):Calls P f b w Q:=e ▸ h
def forest_has.f (l0:List ByteArray) (a1:ByteArray):Option Bool:=(idxK (fun x:ByteArray=>name_Same.f a1 x) l0 0).bind fun i=>some (decide (0≤i))
theorem forest_has1.calls (B:Nat) (s x:ByteArray) (b:Bool) (w:World) (hT:Tabs w) (hcell:w.cell? ⟨B,0,none⟩=some (.string s)) (hx:name_Same.f s x=some b):
  Calls Tryz.prog 96 #[.string x,.pointer (some ⟨B,0,none⟩)] w fun e w'=>e=.returned (.bool b)∧Below w.heap.size w w':=by
 have cS:=name_Same.calls s x b w hT hx;clear hT hx;go_enter Tryz.func96,Tryz.ntmps96;go_wp2_with (go_at_call 60;refine cS.mono ?_;rintro e w' ⟨rfl,hb'⟩);go_ret;exact ⟨rfl,hb'⟩
theorem forest_has.calls (A0:Option Addr) (c0:Nat) (l0:List ByteArray) (a1:ByteArray) (r:Bool) (w:World) (hr0:Kd.C Kd.string w A0 l0.length l0) (hc0:l0.length≤c0) (hT:Tabs w) (h:forest_has.f l0 a1=some r):
  Calls Tryz.prog 47 #[.slice A0 l0.length c0,.string a1] w fun e w'=>e=.returned (.bool r)∧Below w.heap.size w w':=by
 unfold forest_has.f at h;obtain ⟨i,hi,h⟩:=Option.bind_eq_some_iff.1 h;obtain rfl:=sI h;have eg:∀ args w,(callFunc 96 args).run Tryz.prog w=.ok (.enter 96 args) w:=enters_of Tryz.func96 (by kernel_rfl) rfl
 have hcon:=fun W (hb:Below w.heap.size w W) (hB:w.heap.size<W.heap.size) (hcell:W.cell? ⟨w.heap.size,0,none⟩=some (.string a1))=>
  hasStr (fun x:ByteArray=>name_Same.f a1 x) 96 #[.pointer (some ⟨w.heap.size,0,none⟩)] eg A0 l0.length c0 l0 i W
   (fun W2 x b hx hb2=>(forest_has1.calls w.heap.size a1 x b W2 (hT.below (hb.trans (hb2.mono hb.size))) ((hb2.cell (p:=⟨w.heap.size,0,none⟩) hB).trans hcell) hx).mono fun e w' ⟨he,hw⟩=>⟨he,hb2.trans (hw.mono hb2.size)⟩)
   (Kd.C_below hr0 hb) hi
 have HCON:=aM hcon;clear hr0 hT hi eg hcon;go_enter Tryz.func47,Tryz.ntmps47;go_wp2_with (go_at_call 95;refine (HCON.out _ ((Below.refl _ w).alloc (Nat.le_refl _) _) (by simp) ((Lib.cell_of_heap (heap_alloc_new w _) 0).trans rfl)).mono ?_;rintro e w' ⟨rfl,hb'⟩);go_ret;exact ⟨rfl,((Below.refl _ w).alloc (Nat.le_refl _) _).trans (hb'.mono (by simp))⟩
end Go.Proofs.YtpjjbaclphoilaaGreatDoor.A
