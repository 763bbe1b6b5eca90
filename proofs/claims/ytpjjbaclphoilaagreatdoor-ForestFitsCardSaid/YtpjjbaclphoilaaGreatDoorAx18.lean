import Derived.Test.YtpjjbaclphoilaaGreatDoorAx0
import Derived.Test.YtpjjbaclphoilaaGreatDoorAx16
import Derived.Test.YtpjjbaclphoilaaGreatDoorAx17
namespace Go.Proofs.YtpjjbaclphoilaaGreatDoor.A
open Go.RowKit Go.Proofs.YtpjjbaclphoilaaGreatDoorW.PrintWords Go.Proofs.YtpjjbaclphoilaaGreatDoorW.PrintLast Go.Proofs.YtpjjbaclphoilaaGreatDoorW.PrintMore
attribute [local go_sem] max2_int min2_int max_two min_two max_three min_three max_four min_four   -- for this text's walks alone
set_option linter.unusedVariables false
set_option linter.unusedSimpArgs false
set_option maxHeartbeats 8000000
set_option maxRecDepth 100000
def R04_Simple.f (k:Nat) (a0:ByteArray):Option (Bool):=(R02_Check.f k a0).bind fun t561=>(if t561=0 then ((R02_Parts.f k a0).bind fun t562=>(some ((t562.length:Int) == 1))) else (some false))
theorem R04_Simple.calls (k:Nat) (a0:ByteArray) (r:Bool) (w:World) (h:R04_Simple.f k a0=some r):
  Calls Tryz.prog 142 #[.string a0] w fun e w'=>e=.returned (.bool r)∧Below w.heap.size w w':=by
 have HB:=aM (Below.refl w.heap.size w);unfold R04_Simple.f at h;have H:=h;clear h;replace H:=bnA H;obtain ⟨t561,A2,H⟩:=H;revert H;refine itQ ?L3p ?L3n
 case' L3p=>
  rintro ⟨c3b0,c3b1⟩ H;replace H:=bnA H;obtain ⟨t562,A4,H⟩:=H;obtain rfl:=sI H;have M1:=trivial
 case' L3n=>
  rintro ⟨c3b0,c3b1⟩ c3 H;obtain rfl:=sI H;have M2:=trivial
 all_goals
  case _=>
   go_enter Tryz.func142,Tryz.ntmps142;go_wp2_with (first|((with_reducible refine gate_callee (f:=43) rfl ?_);refine goesA (some 4) Tryz.func43 #[.string a0] ?_;(with_reducible refine (R02_Check.calls _ _ _ _ A2.out).mono ?_);rintro e w101 ⟨rfl,hb⟩;refine ⟨_,rfl,?_⟩;replace HB:=aM (below_step (bwA) hb);(try clear hb);apply stopA;(case other=>exact trivial)))
   case _=>
    first
     | clear M1
       (try go_wp2_with (first|(go_at_call 166;(with_reducible refine (R02_Parts.calls _ _ _ _ A4.out).mono ?_);rintro e w102 ⟨v563,rfl,ho0,hb⟩;have HO564:=aM (Kd.R_lower ho0 (below_size (bwA)));replace HB:=aM (below_step (bwA) hb);(try clear hb);(try clear ho0);obtain ⟨Ao103,co103,eo103⟩:=Kd.R_slice HO564.out;subst eo103)));go_ret;exact ⟨endA,bwA⟩
     | clear M2
       (try go_wp2_with (fail))
       go_ret;exact ⟨endA,bwA⟩
def R04_may.f (k:Nat) (a0_0:ByteArray) (a0_1:Int) (a0_2:Bool):Option (Bool):=(R04_Simple.f k a0_0).bind fun t566=>(if t566=true then (if a0_1≥1 then (some (decide (a0_1≤4))) else (some false)) else (some false))
theorem R04_may.calls (k:Nat) (a0_0:ByteArray) (a0_1:Int) (a0_2:Bool) (r:Bool) (w:World) (h:R04_may.f k a0_0 a0_1 a0_2=some r):
  Calls Tryz.prog 101 #[.agg #[.string a0_0,.int .i64 a0_1,.bool a0_2]] w fun e w'=>e=.returned (.bool r)∧Below w.heap.size w w':=by
 have hu88:=Tryz.underlying88;have HB:=aM (Below.refl w.heap.size w);unfold R04_may.f at h;have H:=h;clear h;replace H:=bnA H;obtain ⟨t566,A2,H⟩:=H;revert H;refine itR ?L3p ?L3n
 case' L3p=>
  intro c3 H;subst c3;revert H;refine itR ?L4p ?L4n
  case' L4p=>
   intro c4 H;have c4b0:=geT c4;clear c4;obtain rfl:=sI H;have M1:=trivial
  case' L4n=>
   intro c4 H;have c4b0:=geF c4;clear c4;obtain rfl:=sI H;have M1:=trivial
 case' L3n=>
  intro c3 H;replace c3:=Bool.eq_false_iff.mpr c3;subst c3;obtain rfl:=sI H;have M2:=trivial
 all_goals
  case _=>
   go_enter Tryz.func101,Tryz.ntmps101;go_wp2_with (first|((with_reducible refine gate_dst (N:=1) rfl ?_);refine boxB 1 #[.string a0_0,.int .i64 a0_1,.bool a0_2] 88 HB ?_;clear HB;intro gb565 w101 BK565 GW565 GE565 HB;obtain ⟨hcz102_0,hcz102_1,hcz102_2⟩:=cel3 BK565.out;obtain ⟨hfz102_0,hfz102_1,hfz102_2⟩:=frz3 BK565.out)|((with_reducible refine gate_callee (f:=142) rfl ?_);refine goesA (some 5) Tryz.func142 #[.string a0_0] ?_;(with_reducible refine (R04_Simple.calls _ _ _ _ A2.out).mono ?_);rintro e w103 ⟨rfl,hb⟩;refine ⟨_,rfl,?_⟩;replace BK565:=aM (bkB BK565 hb);replace HB:=aM (below_step (bwA) hb);(try clear hb);apply stopA;(case other=>exact trivial)))
   case _=>
    first
     | clear M1
       obtain ⟨hcz104_0,hcz104_1,hcz104_2⟩:=cel3 BK565.out;obtain ⟨hfz104_0,hfz104_1,hfz104_2⟩:=frz3 BK565.out
       (try go_wp2_with (fail))
       go_ret;exact ⟨endA,bwA⟩
     | clear M2
       (try go_wp2_with (fail))
       go_ret;exact ⟨endA,bwA⟩
def R04_Check.l0:Nat→List (S88)→Int→Option (Bool)
 | 0,_,_=>none
 | k+1,x0,x3=>if x3<(x0.length:Int) then (if 0≤x3 then ((R04_may.f k ((rd_T88 x0 x3).f0) ((rd_T88 x0 x3).f1) ((rd_T88 x0 x3).f2)).bind fun t568=>(if t568=true then (if x3>0 then (if 0≤(wrap64 (x3-1)) then (if (wrap64 (x3-1))<(x0.length:Int) then ((R02_Compare.f k ((rd_T88 x0 (wrap64 (x3-1))).f0) ((rd_T88 x0 x3).f0)).bind fun t571=>(if t571≥0 then (some false) else (R04_Check.l0 k x0 (wrap64 (x3+1))))) else (none)) else (none)) else (R04_Check.l0 k x0 (wrap64 (x3+1)))) else (some false))) else (none)) else (some (decide ((x0.length:Int)≤24)))
def R04_Check.f (k:Nat) (l0:List (S88)):Option (Bool):=R04_Check.l0 k l0 0
def R04_Check.T4:Bool × List (List Nat × List Nat):=(true,[([],[]),([],[]),([0,1],[0,1]),([2],[2]),([3],[3]),([4],[4]),([5,4],[5]),([6],[6]),([7,6],[6,7]),([8,6,6],[6,8]),([9],[9]),([9],[9]),([11,9],[9,11]),([10,12,9],[9,10,12]),([13,9],[9,13]),([14,9],[9,14]),([9],[9]),([9],[9]),([16,17,9],[9,16,17]),([18,9],[9,18]),([19,9],[9,19]),([15,20,9,9],[9,15,20]),([21,9],[9,21]),([9,22,6],[6,9,22]),([6,23],[6,23])])
def R04_Check.B4:List Nat:=[0,0,3,7,15,31,63,127,255,511,1023,1023,3071,8191,16383,32767,1023,1023,197631,459775,984063,2097151,4194303,8388607,16777215]
theorem R04_Check.tab4:rtab .any (opsOf Tryz.f52 4)=R04_Check.T4:=by kernel_rfl
theorem R04_Check.bits4:waitsOk R04_Check.T4.2 R04_Check.B4=true:=by kernel_rfl
theorem R04_Check.calls (k:Nat) (A0:Option Addr) (c0:Nat) (l0:List (S88)) (r:Bool) (w:World) (hr0:Kd.C k88 w A0 l0.length l0) (hc0:l0.length≤c0) (h:R04_Check.f k l0=some r):
  Calls Tryz.prog 52 #[.slice A0 l0.length c0] w fun e w'=>e=.returned (.bool r)∧Below w.heap.size w w':=by
 have hu88:=Tryz.underlying88;have HR0:=aM hr0;have HC0:=aM hc0;clear hr0 hc0;have HB:=aM (Below.refl w.heap.size w);unfold R04_Check.f at h;have H:=h;clear h;have H':=aM H;clear H;go_enter Tryz.func52,Tryz.ntmps52;go_wp2
 go_loopg [3] k (fun kq v3 w'=>∃ (x3_1:Int),v3=.int .i64 x3_1∧Aside0 (R04_Check.l0 kq l0 x3_1=some r)∧Aside0 (kq≤k)∧Aside0 (Below w.heap.size w w'))
 case atStart=>exact ⟨(0),(endS),H',⟨Nat.le_refl _⟩,⟨bwA⟩⟩
 case round=>
  clear H';(try clear p2);(try clear c5);(try clear c52);obtain ⟨x3_1,rfl,HA,HK1,HB⟩:=hrel
  cases gk with
  | zero=>exact absurd HA.out (by simp [R04_Check.l0])
  | succ k1=>
   have H:=HA.out;clear HA;simp only [R04_Check.l0] at H;revert H;refine itR ?L7p ?L7n
   case' L7p=>
    intro c101 H;have c101b0:=dT c101;clear c101;replace H:=itN H;obtain ⟨c102,H⟩:=H;have c102b0:=dT c102;clear c102;replace H:=bnA H;obtain ⟨t568,A103,H⟩:=H;revert H;refine itR ?L8p ?L8n
    case' L8p=>
     intro c104 H;subst c104;revert H;refine itR ?L9p ?L9n
     case' L9p=>
      intro c105 H;have c105b0:=gtT c105;clear c105;obtain ⟨ji106,hji106⟩:∃ j_:Int,(wrap64 (x3_1-1))=j_:=⟨_,rfl⟩;replace H:(if 0≤(ji106) then (if (ji106)<(l0.length:Int) then ((R02_Compare.f k1 ((rd_T88 l0 (ji106)).f0) ((rd_T88 l0 x3_1).f0)).bind fun t571=>(if t571≥0 then (some false) else (R04_Check.l0 k1 l0 (wrap64 (x3_1+1))))) else (none)) else (none))=some r:=by first|(rw [hji106] at H;exact H)|(simp only [hji106] at H ⊢;exact H)
      (try rw [hji106] at A103)
      have hji106w:(IntKind.i64.wrap (x3_1-1))=ji106:=(i64_w _).trans hji106;replace H:=itN H;obtain ⟨c107,H⟩:=H;have c107b0:=dT c107;clear c107;replace H:=itN H;obtain ⟨c108,H⟩:=H;have c108b0:=dT c108;clear c108;replace H:=bnA H;obtain ⟨t571,A109,H⟩:=H;revert H;refine itR ?L10p ?L10n
      case' L10p=>
       intro c110 H;have c110b0:=geT c110;clear c110;obtain rfl:=sI H;have M1:=trivial;have M2:=trivial
      case' L10n=>
       intro c110 H;have c110b0:=geF c110;clear c110;have H':=aM H;clear H;have M1:=trivial;have M3:=trivial
     case' L9n=>
      intro c105 H;have c105b0:=gtF c105;clear c105;have H':=aM H;clear H;have M4:=trivial;have M5:=trivial
    case' L8n=>
     intro c104 H;replace c104:=Bool.eq_false_iff.mpr c104;subst c104;obtain rfl:=sI H;have M4:=trivial;have M6:=trivial
   case' L7n=>
    intro c101 H;have c101b0:=dF c101;clear c101;obtain rfl:=sI H;go_wp2;go_ret;exact ⟨endA,bwA⟩
   all_goals
    case _=>
     (try go_wp2);have n0_:=aM (below_drew1 HB.out);clear HB;have HB:=n0_;clear n0_;have p567:0≤(x3_1:Int):=odA;have q567:x3_1<(l0.length:Int):=odA;obtain ⟨ad567,e567,hx567_0,hx567_1,hx567_2⟩:=at_T88 HR0.out x3_1 p567 q567;have hw567_2:=hx567_2;have hw567_1:=hx567_1;have hw567_0:=hx567_0
     cases e567
     replace hx567_0:=crA hx567_0;replace hx567_1:=crA hx567_1;replace hx567_2:=crA hx567_2;replace p567:=eq_true p567;replace q567:=eq_true q567
     first
      | clear M1
        have p569:0≤((ji106):Int):=odA;have q569:(ji106)<(l0.length:Int):=odA;obtain ⟨ad569,e569,hx569_0,hx569_1,hx569_2⟩:=at_T88 HR0.out (ji106) p569 q569;have hw569_2:=hx569_2;have hw569_1:=hx569_1;have hw569_0:=hx569_0;obtain rfl:ad567=ad569:=(by injection e569);replace hx569_0:=crA hx569_0;replace hx569_1:=crA hx569_1;replace hx569_2:=crA hx569_2;replace p569:=eq_true p569;replace q569:=eq_true q569;have p570:0≤(x3_1:Int):=odA;have q570:x3_1<(l0.length:Int):=odA;obtain ⟨ad570,e570,hx570_0,hx570_1,hx570_2⟩:=at_T88 HR0.out x3_1 p570 q570;have hw570_2:=hx570_2;have hw570_1:=hx570_1;have hw570_0:=hx570_0;obtain rfl:ad567=ad570:=(by injection e570);replace hx570_0:=crA hx570_0;replace hx570_1:=crA hx570_1;replace hx570_2:=crA hx570_2;replace p570:=eq_true p570;replace q570:=eq_true q570;refine start_ (n:=25) (S:=fun w'=>w'.cell? (ad567.add ((x3_1).toNat * 3))=some (.string ((rd_T88 l0 x3_1).f0))∧w'.cell? ⟨(ad567.add ((x3_1).toNat * 3)).block,(ad567.add ((x3_1).toNat * 3)).off+1,none⟩=some (.int .i64 ((rd_T88 l0 x3_1).f1))∧w'.cell? ⟨(ad567.add ((x3_1).toNat * 3)).block,(ad567.add ((x3_1).toNat * 3)).off+2,none⟩=some (.bool ((rd_T88 l0 x3_1).f2))∧w'.cell? (ad567.add (((ji106)).toNat * 3))=some (.string ((rd_T88 l0 (ji106)).f0))∧w'.cell? ⟨(ad567.add (((ji106)).toNat * 3)).block,(ad567.add (((ji106)).toNat * 3)).off+1,none⟩=some (.int .i64 ((rd_T88 l0 (ji106)).f1))∧w'.cell? ⟨(ad567.add (((ji106)).toNat * 3)).block,(ad567.add (((ji106)).toNat * 3)).off+2,none⟩=some (.bool ((rd_T88 l0 (ji106)).f2))∧w'.cell? (ad567.add ((x3_1).toNat * 3))=some (.string ((rd_T88 l0 x3_1).f0))∧w'.cell? ⟨(ad567.add ((x3_1).toNat * 3)).block,(ad567.add ((x3_1).toNat * 3)).off+1,none⟩=some (.int .i64 ((rd_T88 l0 x3_1).f1))∧w'.cell? ⟨(ad567.add ((x3_1).toNat * 3)).block,(ad567.add ((x3_1).toNat * 3)).off+2,none⟩=some (.bool ((rd_T88 l0 x3_1).f2))) (ds:=[]) (mkB 25 0) (by kernel_rfl) rfl rfl ⟨crA hw567_0,crA hw567_1,crA hw567_2,crA hw569_0,crA hw569_1,crA hw569_2,crA hw570_0,crA hw570_1,crA hw570_2⟩ (fun hHeld=>?_);refine with_tabW R04_Check.tab4 R04_Check.bits4 (fun HT_ HW_=>?_)
        generalize wr.drew=w201 at HB hx567_0 hx567_1 hx567_2 hx569_0 hx569_1 hx569_2 hx570_0 hx570_1 hx570_2 hHeld ⊢
        refine pureA 0 (some 10) (mkB 25 1) ?_;refine pureA 1 (some 11) (mkB 25 3) ?_;refine pureA 2 (some 12) (mkB 25 7) ?_;refine takeA 3 (some 13) (mkB 25 15) ?_ rfl (Or.inl ⟨by rfl,by rintro w' ⟨s0,s1,s2,s3,s4,s5,s6,s7,s8⟩;go_simp;with_reducible rfl⟩);refine oneA 4 (some 14) (mkB 25 31) (fun K hK=>?_);refine goesS Tryz.func101 #[.agg #[.string ((rd_T88 l0 x3_1).f0),.int .i64 ((rd_T88 l0 x3_1).f1),.bool ((rd_T88 l0 x3_1).f2)]] ?_
        with_reducible refine (R04_may.calls _ _ _ _ _ _ A103.out).mono ?_
        rintro e w202 ⟨rfl,hb⟩;refine ⟨_,rfl,?_⟩;have n0_:=aM (below_step (bwA) hb);clear HB;have HB:=n0_;clear n0_
        (try clear hb)
        refine hK.out _ _ ⟨crA hw567_0,crA hw567_1,crA hw567_2,crA hw569_0,crA hw569_1,crA hw569_2,crA hw570_0,crA hw570_1,crA hw570_2⟩ (fun hHeld=>?_);clear hK K;refine normA ?_;refine pureA 5 (some 15) (mkB 25 63) ?_;refine pureA 6 (some 16) (mkB 25 127) ?_;refine pureA 7 (some 17) (mkB 25 255) ?_;refine pureA 8 (some 18) (mkB 25 511) ?_;refine pureA 9 (some 19) (mkB 25 1023) ?_;refine pureA 10 (some 20) (mkB 25 2047) ?_;refine pureA 11 (some 21) (mkB 25 4095) ?_;refine pureA 12 (some 22) (mkB 25 8191) ?_;refine pureA 13 (some 23) (mkB 25 16383) ?_;refine pureA 14 (some 24) (mkB 25 32767) ?_;refine pureA 16 (some 26) (mkB 25 98303) ?_;refine pureA 17 (some 27) (mkB 25 229375) ?_;refine pureA 18 (some 28) (mkB 25 491519) ?_;refine pureA 19 (some 29) (mkB 25 1015807) ?_;refine takeA 15 (some 25) (mkB 25 1048575) ?_ rfl (Or.inl ⟨by rfl,by rintro w' ⟨s0,s1,s2,s3,s4,s5,s6,s7,s8⟩;go_simp;with_reducible rfl⟩);refine takeA 20 (some 30) (mkB 25 2097151) ?_ rfl (Or.inl ⟨by rfl,by rintro w' ⟨s0,s1,s2,s3,s4,s5,s6,s7,s8⟩;go_simp;with_reducible rfl⟩);refine oneA 21 (some 31) (mkB 25 4194303) (fun K hK=>?_);refine goes_ Tryz.func87 (by kernel_rfl) rfl #[.string ((rd_T88 l0 (ji106)).f0),.string ((rd_T88 l0 x3_1).f0)] (by rfl) rfl rfl (by (try simp only [List.map_toArray,List.map_cons,List.map_nil]);first|done|(simp only [hji106];rfl)|rfl|(simp only [List.length_drop,List.length_take];rfl)) ?_
        with_reducible refine (R02_Compare.calls _ _ _ _ _ A109.out).mono ?_
        rintro e w203 ⟨rfl,hb⟩;refine ⟨_,rfl,?_⟩;have n0_:=aM (below_step (bwA) hb);clear HB;have HB:=n0_;clear n0_
        (try clear hb)
        refine hK.out _ _ ⟨crA hw567_0,crA hw567_1,crA hw567_2,crA hw569_0,crA hw569_1,crA hw569_2,crA hw570_0,crA hw570_1,crA hw570_2⟩ (fun hHeld=>?_);clear hK K;refine normA ?_;refine pureA 22 (some 32) (mkB 25 8388607) ?_;refine pureA 23 (some 33) (mkB 25 16777215) ?_;refine pureA 24 (some 34) (mkB 25 33554431) ?_;refine done_ (done_of HT_.out (by kernel_rfl)) ?_;try go_wp2
        first
         | clear M2
           go_ret;exact ⟨by first|rfl|(rw [ne_nil_b];(first|done|rfl))|(simp [errW_none,errW_some]<;>rfl)|(simp only [← hji106];first|rfl|(simp [errW_none,errW_some]<;>rfl))|(simp [*,errW_none,errW_some]<;>rfl),bwA⟩
         | clear M3
           go_roundg k1
           case measure=>have:=HK1.out;omega
           case rel=>exact ⟨(wrap64 (x3_1+1)),(endS),H',⟨by have:=HK1.out;omega⟩,⟨bwA⟩⟩
      | clear M4
        refine start_ (n:=25) (S:=fun w'=>w'.cell? (ad567.add ((x3_1).toNat * 3))=some (.string ((rd_T88 l0 x3_1).f0))∧w'.cell? ⟨(ad567.add ((x3_1).toNat * 3)).block,(ad567.add ((x3_1).toNat * 3)).off+1,none⟩=some (.int .i64 ((rd_T88 l0 x3_1).f1))∧w'.cell? ⟨(ad567.add ((x3_1).toNat * 3)).block,(ad567.add ((x3_1).toNat * 3)).off+2,none⟩=some (.bool ((rd_T88 l0 x3_1).f2))) (ds:=[]) (mkB 25 0) (by kernel_rfl) rfl rfl ⟨crA hw567_0,crA hw567_1,crA hw567_2⟩ (fun hHeld=>?_);refine with_tabW R04_Check.tab4 R04_Check.bits4 (fun HT_ HW_=>?_)
        generalize wr.drew=w201 at HB hx567_0 hx567_1 hx567_2 hHeld ⊢
        refine pureA 0 (some 10) (mkB 25 1) ?_;refine pureA 1 (some 11) (mkB 25 3) ?_;refine pureA 2 (some 12) (mkB 25 7) ?_;refine takeA 3 (some 13) (mkB 25 15) ?_ rfl (Or.inl ⟨by rfl,by rintro w' ⟨s0,s1,s2⟩;go_simp;with_reducible rfl⟩);refine oneA 4 (some 14) (mkB 25 31) (fun K hK=>?_);refine goesS Tryz.func101 #[.agg #[.string ((rd_T88 l0 x3_1).f0),.int .i64 ((rd_T88 l0 x3_1).f1),.bool ((rd_T88 l0 x3_1).f2)]] ?_
        with_reducible refine (R04_may.calls _ _ _ _ _ _ A103.out).mono ?_
        rintro e w202 ⟨rfl,hb⟩;refine ⟨_,rfl,?_⟩;have n0_:=aM (below_step (bwA) hb);clear HB;have HB:=n0_;clear n0_
        (try clear hb)
        refine hK.out _ _ ⟨crA hw567_0,crA hw567_1,crA hw567_2⟩ (fun hHeld=>?_);clear hK K;refine normA ?_;refine pureA 5 (some 15) (mkB 25 63) ?_;refine pureA 6 (some 16) (mkB 25 127) ?_
        first
         | clear M5
           refine pureA 7 (some 17) (mkB 25 255) ?_;refine pureA 8 (some 18) (mkB 25 511) ?_;refine pureA 9 (some 19) (mkB 25 1023) ?_;refine pureU 10 (some 20) (mkB 25 2047) ?_;refine pureU 11 (some 21) (mkB 25 4095) ?_;refine pureU 12 (some 22) (mkB 25 8191) ?_;refine pureU 13 (some 23) (mkB 25 16383) ?_;refine pureU 14 (some 24) (mkB 25 32767) ?_;refine pureU 15 (some 25) (mkB 25 65535) ?_;refine pureU 16 (some 26) (mkB 25 131071) ?_;refine pureU 17 (some 27) (mkB 25 262143) ?_;refine pureU 18 (some 28) (mkB 25 524287) ?_;refine pureU 19 (some 29) (mkB 25 1048575) ?_;refine pureU 20 (some 30) (mkB 25 2097151) ?_;refine pureU 21 (some 31) (mkB 25 4194303) ?_;refine pureU 22 (some 32) (mkB 25 8388607) ?_;refine pureA 23 (some 33) (mkB 25 16777215) ?_;refine pureA 24 (some 34) (mkB 25 33554431) ?_;refine done_ (done_of HT_.out (by kernel_rfl)) ?_;try go_wp2
           go_roundg k1
           case measure=>have:=HK1.out;omega
           case rel=>exact ⟨(wrap64 (x3_1+1)),(endS),H',⟨by have:=HK1.out;omega⟩,⟨bwA⟩⟩
         | clear M6
           refine pureU 7 (some 17) (mkB 25 255) ?_;refine pureU 8 (some 18) (mkB 25 511) ?_;refine pureU 9 (some 19) (mkB 25 1023) ?_;refine pureU 10 (some 20) (mkB 25 2047) ?_;refine pureU 11 (some 21) (mkB 25 4095) ?_;refine pureU 12 (some 22) (mkB 25 8191) ?_;refine pureU 13 (some 23) (mkB 25 16383) ?_;refine pureU 14 (some 24) (mkB 25 32767) ?_;refine pureU 15 (some 25) (mkB 25 65535) ?_;refine pureU 16 (some 26) (mkB 25 131071) ?_;refine pureU 17 (some 27) (mkB 25 262143) ?_;refine pureU 18 (some 28) (mkB 25 524287) ?_;refine pureU 19 (some 29) (mkB 25 1048575) ?_;refine pureU 20 (some 30) (mkB 25 2097151) ?_;refine pureU 21 (some 31) (mkB 25 4194303) ?_;refine pureU 22 (some 32) (mkB 25 8388607) ?_;refine pureU 23 (some 33) (mkB 25 16777215) ?_;refine pureA 24 (some 34) (mkB 25 33554431) ?_;refine done_ (done_of HT_.out (by kernel_rfl)) ?_;(try go_wp2);go_ret;exact ⟨endA,bwA⟩
def R05_IsID.f (a0_0:Int) (a0_1:Int) (a0_2:Int):Option (Bool):=if a0_0≥1 then (if a0_0≤15 then (if a0_1≥1 then (if a0_1≤1099511627775 then (if a0_2≥1 then (some (decide (a0_2≤1099511627775))) else (some false)) else (some false)) else (some false)) else (some false)) else (some false)
theorem R05_IsID.calls (a0_0:Int) (a0_1:Int) (a0_2:Int) (r:Bool) (w:World) (h:R05_IsID.f a0_0 a0_1 a0_2=some r):
  Calls Tryz.prog 53 #[.agg #[.int .i64 a0_0,.int .i64 a0_1,.int .i64 a0_2]] w fun e w'=>e=.returned (.bool r)∧Below w.heap.size w w':=by
 have hu36:=Tryz.underlying36;have HB:=aM (Below.refl w.heap.size w);unfold R05_IsID.f at h;have H:=h;clear h;revert H;refine itR ?L1p ?L1n
 case' L1p=>
  intro c2 H;have c2b0:=geT c2;clear c2;revert H;refine itR ?L2p ?L2n
  case' L2p=>
   intro c3 H;have c3b0:=dT c3;clear c3;revert H;refine itR ?L3p ?L3n
   case' L3p=>
    intro c4 H;have c4b0:=geT c4;clear c4;revert H;refine itR ?L4p ?L4n
    case' L4p=>
     intro c5 H;have c5b0:=dT c5;clear c5;revert H;refine itR ?L5p ?L5n
     case' L5p=>
      intro c6 H;have c6b0:=geT c6;clear c6;obtain rfl:=sI H
     case' L5n=>
      intro c6 H;have c6b0:=geF c6;clear c6;obtain rfl:=sI H
    case' L4n=>
     intro c5 H;have c5b0:=dF c5;clear c5;obtain rfl:=sI H
   case' L3n=>
    intro c4 H;have c4b0:=geF c4;clear c4;obtain rfl:=sI H
  case' L2n=>
   intro c3 H;have c3b0:=dF c3;clear c3;obtain rfl:=sI H
 case' L1n=>
  intro c2 H;have c2b0:=geF c2;clear c2;obtain rfl:=sI H
 all_goals
  case _=>
   go_enter Tryz.func53,Tryz.ntmps53;(try go_wp2_with (first|((with_reducible refine gate_dst (N:=1) rfl ?_);refine boxB 1 #[.int .i64 a0_0,.int .i64 a0_1,.int .i64 a0_2] 36 HB ?_;clear HB;intro gb572 w101 BK572 GW572 GE572 HB;obtain ⟨hcz102_0,hcz102_1,hcz102_2⟩:=cel3 BK572.out;obtain ⟨hfz102_0,hfz102_1,hfz102_2⟩:=frz3 BK572.out)));go_ret;exact ⟨endA,bwA⟩
def R05_Alike.f (k:Nat) (a0:ByteArray) (a1:ByteArray):Option (Bool):=(R02_Fold.f k a0).bind fun t573=>((R02_Fold.f k a1).bind fun t574=>(some (t573.toList == t574.toList)))
theorem R05_Alike.calls (k:Nat) (a0:ByteArray) (a1:ByteArray) (r:Bool) (w:World) (h:R05_Alike.f k a0 a1=some r):
  Calls Tryz.prog 69 #[.string a0,.string a1] w fun e w'=>e=.returned (.bool r)∧Below w.heap.size w w':=by
 have HB:=aM (Below.refl w.heap.size w);unfold R05_Alike.f at h;have H:=h;clear h;replace H:=Option.bind_eq_some_iff.mp H;obtain ⟨t573,A30,H⟩:=H;replace H:((R02_Fold.f k a1).bind fun t574=>(some (t573.toList == t574.toList)))=some r:=H;have A3:=aM A30;clear A30;replace H:=Option.bind_eq_some_iff.mp H;obtain ⟨t574,A40,H⟩:=H;replace H:(some (t573.toList == t574.toList))=some r:=H;have A4:=aM A40;clear A40;obtain rfl:=sI H;go_enter Tryz.func69,Tryz.ntmps69;go_wp2_with (first|((with_reducible refine gate_callee (f:=114) rfl ?_);refine goesA (some 6) Tryz.func114 #[.string a0] ?_;(with_reducible refine (R02_Fold.calls k a0 t573 _ A3.out).mono ?_);rintro e w101 ⟨rfl,hb⟩;refine ⟨_,rfl,?_⟩;have n0_:=aM (below_step (bwA) hb);clear HB;have HB:=n0_;clear n0_;(try clear hb);(try clear hb2);(try clear hk);(try clear hi))|((with_reducible refine gate_callee (f:=114) rfl ?_);refine goesA (some 8) Tryz.func114 #[.string a1] ?_;(with_reducible refine (R02_Fold.calls k a1 t574 _ A4.out).mono ?_);rintro e w102 ⟨rfl,hb⟩;refine ⟨_,rfl,?_⟩;have n0_:=aM (below_step (bwA) hb);clear HB;have HB:=n0_;clear n0_;(try clear hb);(try clear hb2);(try clear hk);(try clear hi)));go_ret;exact ⟨endA,bwA⟩
def R05_Has.l0:Nat→List ByteArray→ByteArray→Int→Option (Bool)
 | 0,_,_,_=>none
 | k+1,x0,x1,x5=>if x5<(x0.length:Int) then (if 0≤x5 then ((R05_Alike.f k (rdOf ByteArray.empty x0 x5) x1).bind fun t576=>(if t576=true then (some true) else (R05_Has.l0 k x0 x1 (wrap64 (x5+1))))) else (none)) else (some false)
def R05_Has.f (k:Nat) (l0:List ByteArray) (a1:ByteArray):Option (Bool):=R05_Has.l0 k l0 a1 0
theorem R05_Has.calls (k:Nat) (A0:Option Addr) (c0:Nat) (l0:List ByteArray) (a1:ByteArray) (r:Bool) (w:World) (hr0:Kd.C Kd.string w A0 l0.length l0) (hc0:l0.length≤c0) (h:R05_Has.f k l0 a1=some r):
  Calls Tryz.prog 54 #[.slice A0 l0.length c0,.string a1] w fun e w'=>e=.returned (.bool r)∧Below w.heap.size w w':=by
 have HR0:=aM hr0;have HC0:=aM hc0;clear hr0 hc0;have HB:=aM (Below.refl w.heap.size w);unfold R05_Has.f at h;have H:=h;clear h;have H':=aM H;clear H;go_enter Tryz.func54,Tryz.ntmps54;go_wp2
 go_loopg [5] k (fun kq v5 w'=>∃ (x5_1:Int),v5=.int .i64 x5_1∧Aside0 (R05_Has.l0 kq l0 a1 x5_1=some r)∧Aside0 (kq≤k)∧Aside0 (Below w.heap.size w w'))
 case atStart=>exact ⟨(0),(endS),H',⟨Nat.le_refl _⟩,⟨bwA⟩⟩
 case round=>
  clear H';(try clear p2);(try clear c5);(try clear c54);obtain ⟨x5_1,rfl,HA,HK1,HB⟩:=hrel
  cases gk with
  | zero=>exact absurd HA.out (by simp [R05_Has.l0])
  | succ k1=>
   have H:=HA.out;clear HA;simp only [R05_Has.l0] at H;revert H;refine itR ?L3p ?L3n
   case' L3p=>
    intro c101 H;have c101b0:=dT c101;clear c101;replace H:=itN H;obtain ⟨c102,H⟩:=H;have c102b0:=dT c102;clear c102;replace H:=bnA H;obtain ⟨t576,A103,H⟩:=H;revert H;refine itR ?L4p ?L4n
    case' L4p=>
     intro c104 H;subst c104;obtain rfl:=sI H;have M1:=trivial
    case' L4n=>
     intro c104 H;replace c104:=Bool.eq_false_iff.mpr c104;subst c104;have H':=aM H;clear H;have M2:=trivial
   case' L3n=>
    intro c101 H;have c101b0:=dF c101;clear c101;obtain rfl:=sI H;go_wp2;go_ret;exact ⟨endA,bwA⟩
   all_goals
    case _=>
     have p575:0≤(x5_1:Int):=odA;have q575:x5_1<(l0.length:Int):=odA;obtain ⟨ad575,e575,hx575_0⟩:=Kd.at_string HR0.out x5_1 p575 q575
     cases e575
     replace hx575_0:=crA hx575_0;replace p575:=eq_true p575;replace q575:=eq_true q575;try go_wp2_with (first|((with_reducible refine gate_callee (f:=69) rfl ?_);refine goesA (some 17) Tryz.func69 #[.string (rdOf ByteArray.empty l0 x5_1),.string a1] ?_;(with_reducible refine (R05_Alike.calls _ _ _ _ _ A103.out).mono ?_);rintro e w201 ⟨rfl,hb⟩;refine ⟨_,rfl,?_⟩;replace HB:=aM (below_step (bwA) hb);(try clear hb)))
     first
      | clear M1
        go_ret;exact ⟨endA,bwA⟩
      | clear M2
        go_roundg k1
        case measure=>have:=HK1.out;omega
        case rel=>exact ⟨(wrap64 (x5_1+1)),(endS),H',⟨by have:=HK1.out;omega⟩,⟨bwA⟩⟩
end Go.Proofs.YtpjjbaclphoilaaGreatDoor.A
