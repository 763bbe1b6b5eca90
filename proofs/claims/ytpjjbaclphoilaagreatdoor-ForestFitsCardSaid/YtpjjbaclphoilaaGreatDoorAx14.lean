import Derived.Test.YtpjjbaclphoilaaGreatDoorAx0
import Derived.Test.YtpjjbaclphoilaaGreatDoorAx5
import Derived.Test.YtpjjbaclphoilaaGreatDoorAx6
import Derived.Test.YtpjjbaclphoilaaGreatDoorAx13
namespace Go.Proofs.YtpjjbaclphoilaaGreatDoor.A
open Go.RowKit Go.Proofs.YtpjjbaclphoilaaGreatDoorW.PrintWords Go.Proofs.YtpjjbaclphoilaaGreatDoorW.PrintLast Go.Proofs.YtpjjbaclphoilaaGreatDoorW.PrintMore
attribute [local go_sem] max2_int min2_int max_two min_two max_three min_three max_four min_four   -- for this text's walks alone
set_option linter.unusedVariables false
set_option linter.unusedSimpArgs false
set_option maxHeartbeats 8000000
set_option maxRecDepth 100000
mutual
def schema_Fits.j0:Nat→List (S86)→List (S76)→Bool→Option (Int)
 | 0,_,_,_=>none
 | k+1,x0,x1,x20=>if x20=true then (some 1) else (schema_Fits.l0 k x0 x1 x1 (x1.length:Int) 0)
def schema_Fits.l0:Nat→List (S86)→List (S76)→List (S76)→Int→Int→Option (Int)
 | 0,_,_,_,_,_=>none
 | k+1,x0,x1,x21,x22,x23=>if x23<x22 then (if 0≤x23 then (if x23<(x21.length:Int) then ((schema_Find.f x0 ((rd_T76 x21 x23).f0)).bind fun bt463=>(if bt463.2.2.2=true then (if bt463.2.1=((rd_T76 x21 x23).f1.f0) then (schema_Fits.l0 k x0 x1 x21 x22 (wrap64 (x23+1))) else (some 8)) else (some 4))) else (none)) else (none)) else (schema_Fits.l1 k x1 x0 (x0.length:Int) 0)
def schema_Fits.l1:Nat→List (S76)→List (S86)→Int→Int→Option (Int)
 | 0,_,_,_,_=>none
 | k+1,x1,x45,x46,x47=>if x47<x46 then (if 0≤x47 then (if x47<(x45.length:Int) then ((schema_Get.f x1 ((rd_T86 x45 x47).f0)).bind fun bt470=>(if (rd_T86 x45 x47).f2=true then (if bt470.2.2.2=true then (schema_Fits.l1 k x1 x45 x46 (wrap64 (x47+1))) else (some 7)) else (schema_Fits.l1 k x1 x45 x46 (wrap64 (x47+1))))) else (none)) else (none)) else (some 0)
end
def schema_Fits.f (k:Nat) (l0:List (S86)) (l1:List (S76)):Option (Int):=(schema_Check.f k l0).bind fun t459=>(if t459=true then ((schema_Attrs.f k l1).bind fun t460=>(schema_Fits.j0 k l0 l1 (!t460))) else (schema_Fits.j0 k l0 l1 true))
theorem schema_Fits.calls (k:Nat) (A0:Option Addr) (c0:Nat) (l0:List (S86)) (A1:Option Addr) (c1:Nat) (l1:List (S76)) (r:Int) (w:World) (hr0:Kd.C k86 w A0 l0.length l0) (hc0:l0.length≤c0) (hr1:Kd.C k76 w A1 l1.length l1) (hc1:l1.length≤c1) (hT:Tabs w) (h:schema_Fits.f k l0 l1=some r):
  Calls Tryz.prog 68 #[.slice A0 l0.length c0,.slice A1 l1.length c1] w fun e w'=>e=.returned (.int .i64 r)∧Below w.heap.size w w':=by
 have hu76:=Tryz.underlying76;have hu86:=Tryz.underlying86;have hu74:=Tryz.underlying74;have HR0:=aM hr0;have HC0:=aM hc0;clear hr0 hc0;have HR1:=aM hr1;have HC1:=aM hc1;clear hr1 hc1;have HB:=aM (Below.refl w.heap.size w);unfold schema_Fits.f at h;have H:=h;clear h;have HT:=aM hT;clear hT;have HC101:=aM H;clear H;go_enter Tryz.func68,Tryz.ntmps68;go_upto_region 1 with (fail);go_cut [20] (fun v20 wc=>∃ (kq:Nat) (x20_100:Bool),v20=.bool x20_100∧Aside0 (schema_Fits.j0 kq l0 l1 x20_100=some r)∧Aside0 (kq≤k)∧Aside0 (Below w.heap.size w wc))
 case first=>
  have H:=HC101.out;clear HC101;replace H:=bnA H;obtain ⟨t459,A102,H⟩:=H;revert H;refine itR ?L3p ?L3n
  case' L3p=>
   intro c103 H;subst c103;replace H:=bnA H;obtain ⟨t460,A104,H⟩:=H;have H':=aM H;clear H;have M1:=trivial
  case' L3n=>
   intro c103 H;replace c103:=Bool.eq_false_iff.mpr c103;subst c103;have H':=aM H;clear H;have M2:=trivial
  all_goals
   case _=>
    go_wp2_with (first|((with_reducible refine gate_callee (f:=45) rfl ?_);refine goesA (some 14) Tryz.func45 #[.slice A0 l0.length c0] ?_;(with_reducible refine (schema_Check.calls _ _ _ _ _ _ ?side1 ?side2 ?side3 A102.out).mono ?_);(case side1=>exact Kd.C_below HR0.out (bwA));(case side2=>exact HC0.out);(case side3=>exact Tabs.below HT.out (bwA));rintro e w201 ⟨rfl,hb⟩;refine ⟨_,rfl,?_⟩;replace HB:=aM (below_step (bwA) hb);(try clear hb);apply stopA;(case other=>exact trivial)))
    case _=>
     first
      | clear M1
        try go_wp2_with (first|(go_at_call 112;(with_reducible refine (schema_Attrs.calls _ _ _ _ _ _ ?side1 ?side2 ?side3 A104.out).mono ?_);(case side1=>exact Kd.C_below HR1.out (bwA));(case side2=>exact HC1.out);(case side3=>exact Tabs.below HT.out (bwA));rintro e w202 ⟨rfl,hb⟩;replace HB:=aM (below_step (bwA) hb);(try clear hb)))
        go_meet
        case rel=>exact ⟨_,(!t460),(endS),H',⟨by first|omega|exact Nat.le_refl _⟩,⟨bwA⟩⟩
      | clear M2
        (try go_wp2_with (fail))
        go_meet
        case rel=>exact ⟨_,(true),(endS),H',⟨by first|omega|exact Nat.le_refl _⟩,⟨bwA⟩⟩
 case rest=>
  clear HC101;(try clear c1);(try clear p2);(try clear c4);(try clear c6);(try clear c10);(try clear c45);(try clear c68);obtain ⟨kq,x20_100,rfl,HA,HJ100,HB⟩:=hcut
  cases kq with
  | zero=>exact absurd HA.out (by simp [schema_Fits.j0])
  | succ kj100=>
   have H:=HA.out;clear HA;simp only [schema_Fits.j0] at H;revert H;refine itR ?L27p ?L27n
   case' L27p=>
    intro c102 H;subst c102;obtain rfl:=sI H;have M25:=trivial
   case' L27n=>
    intro c102 H;replace c102:=Bool.eq_false_iff.mpr c102;subst c102;have H':=aM H;clear H;have M26:=trivial
   all_goals
    case _=>
     go_wp2
     first
      | clear M25
        go_ret;exact ⟨endA,bwA⟩
      | clear M26
        go_loopg [23] kj100 (fun kq v23 w'=>∃ (x23_2:Int),v23=.int .i64 x23_2∧Aside0 (schema_Fits.l0 kq l0 l1 l1 (l1.length:Int) x23_2=some r)∧Aside0 (kq≤kj100)∧Aside0 (Below w.heap.size w w'))
        case atStart=>exact ⟨(0),(endS),H',⟨Nat.le_refl _⟩,⟨bwA⟩⟩
        case round=>
         clear H';(try clear c1);(try clear p2);(try clear c4);(try clear c6);(try clear c10);(try clear c45);(try clear c68);(try clear c102);(try clear c103);(try clear p2);obtain ⟨x23_2,rfl,HA,HK2,HB⟩:=hrel
         cases gk with
         | zero=>exact absurd HA.out (by simp [schema_Fits.l0])
         | succ k2=>
          have H:=HA.out;clear HA;simp only [schema_Fits.l0] at H;revert H;refine itR ?L15p ?L15n
          case' L15p=>
           intro c201 H;have c201b0:=dT c201;clear c201;replace H:=itN H;obtain ⟨c202,H⟩:=H;have c202b0:=dT c202;clear c202;replace H:=itN H;obtain ⟨c203,H⟩:=H;have c203b0:=dT c203;clear c203;replace H:=bnA H;obtain ⟨⟨t463,t464,t465,t466⟩,A204,H⟩:=H;dsimp only at H;revert H;refine itR ?L16p ?L16n
           case' L16p=>
            intro c205 H;subst c205;revert H;refine itQ ?L17p ?L17n
            case' L17p=>
             rintro ⟨c206b0,c206b1⟩ H;have H':=aM H;clear H;have M11:=trivial;have M12:=trivial
            case' L17n=>
             rintro ⟨c206b0,c206b1⟩ c206 H;obtain rfl:=sI H;have M11:=trivial;have M13:=trivial
           case' L16n=>
            intro c205 H;replace c205:=Bool.eq_false_iff.mpr c205;subst c205;obtain rfl:=sI H;have M14:=trivial
          case' L15n=>
           intro c201 H;have c201b0:=dF c201;clear c201;have H':=aM H;clear H;go_wp2
           go_loopg [47] k2 (fun kq v47 w'=>∃ (x47_3:Int),v47=.int .i64 x47_3∧Aside0 (schema_Fits.l1 kq l1 l0 (l0.length:Int) x47_3=some r)∧Aside0 (kq≤k2)∧Aside0 (Below w.heap.size w w'))
           case atStart=>exact ⟨(0),(endS),H',⟨Nat.le_refl _⟩,⟨bwA⟩⟩
           case round=>
            clear H';(try clear c1);(try clear c2);(try clear p2);(try clear c3);(try clear c4);(try clear p4);(try clear q4);(try clear hx4);(try clear c6);(try clear p6);(try clear c9);(try clear c10);(try clear c20);(try clear c30);(try clear c45);(try clear p46);(try clear q46);(try clear hx46);(try clear p64);(try clear c68);(try clear c97);(try clear c102);(try clear c103);(try clear c201);(try clear c201b0);(try clear c202);(try clear c202b0);(try clear c203);(try clear c203b0);(try clear c205);(try clear c206);(try clear c206b0);(try clear c206b1);(try clear hcz302_0);(try clear hcz302_1);(try clear hcz302_2);(try clear hcz302_3);(try clear hcz306_0);(try clear hcz306_1);(try clear hcz306_2);(try clear hcz307_0);(try clear hcz307_1);(try clear hcz307_2);(try clear hcz307_3);(try clear hfz302_0);(try clear hfz302_1);(try clear hfz302_2);(try clear hfz302_3);(try clear hfz306_0);(try clear hfz306_1);(try clear hfz306_2);(try clear hfz307_0);(try clear hfz307_1);(try clear hfz307_2);(try clear hfz307_3);(try clear hx461_0);(try clear hx461_1);(try clear hx461_2);(try clear hx461_3);(try clear p2);(try clear p461);(try clear q461);obtain ⟨x47_3,rfl,HA,HK3,HB⟩:=hrel
            cases gk with
            | zero=>exact absurd HA.out (by simp [schema_Fits.l1])
            | succ k3=>
             have H:=HA.out;clear HA;simp only [schema_Fits.l1] at H;revert H;refine itR ?L22p ?L22n
             case' L22p=>
              intro c301 H;have c301b0:=dT c301;clear c301;replace H:=itN H;obtain ⟨c302,H⟩:=H;have c302b0:=dT c302;clear c302;replace H:=itN H;obtain ⟨c303,H⟩:=H;have c303b0:=dT c303;clear c303;replace H:=bnA H;obtain ⟨⟨t470,t471,t472,t473⟩,A304,H⟩:=H;dsimp only at H;obtain ⟨bq305,hbq305⟩:∃ b_:Bool,b_=((rd_T86 l0 x47_3).f2):=⟨_,rfl⟩;replace H:(if bq305=true then (if t473=true then (schema_Fits.l1 k3 l1 l0 (l0.length:Int) (wrap64 (x47_3+1))) else (some 7)) else (schema_Fits.l1 k3 l1 l0 (l0.length:Int) (wrap64 (x47_3+1))))=some r:=by rw [← hbq305] at H;exact H
              have Nbq305:=aM hbq305;clear hbq305;revert H;refine itR ?L23p ?L23n
              case' L23p=>
               intro c306 H;subst c306;revert H;refine itR ?L24p ?L24n
               case' L24p=>
                intro c307 H;subst c307;have H':=aM H;clear H;have M18:=trivial;have M19:=trivial
               case' L24n=>
                intro c307 H;replace c307:=Bool.eq_false_iff.mpr c307;subst c307;obtain rfl:=sI H;have M18:=trivial;have M20:=trivial
              case' L23n=>
               intro c306 H;replace c306:=Bool.eq_false_iff.mpr c306;subst c306;have H':=aM H;clear H;have M21:=trivial
             case' L22n=>
              intro c301 H;have c301b0:=dF c301;clear c301;obtain rfl:=sI H;go_wp2;go_ret;exact ⟨endA,bwA⟩
             all_goals
              case _=>
               have p468:0≤(x47_3:Int):=odA;have q468:x47_3<(l0.length:Int):=odA;obtain ⟨ad468,e468,hx468_0,hx468_1,hx468_2⟩:=at_T86 HR0.out x47_3 p468 q468
               (try rw [← Nbq305.out] at hx468_2)
               cases e468
               replace hx468_0:=crA hx468_0;replace hx468_1:=crA hx468_1;replace hx468_2:=crA hx468_2;replace p468:=eq_true p468;replace q468:=eq_true q468;go_wp2_with (first|((with_reducible refine gate_dst (N:=10) rfl ?_);refine boxB 10 #[.string (⟨#[]⟩:ByteArray),.int .i64 0,.bool false] 86 HB ?_;clear HB;intro gb469 w401 BK469 GW469 GE469 HB;obtain ⟨hcz402_0,hcz402_1,hcz402_2⟩:=cel3 BK469.out;obtain ⟨hfz402_0,hfz402_1,hfz402_2⟩:=frz3 BK469.out)|((with_reducible refine gate_callee (f:=113) rfl ?_);refine goesA (some 55) Tryz.func113 #[.slice A1 l1.length c1,.string ((rd_T86 l0 x47_3).f0)] ?_;(with_reducible refine (schema_Get.calls _ _ _ _ _ _ _ _ _ ?side1 ?side2 ?side3 A304.out).mono ?_);(case side1=>exact Kd.C_below HR1.out (bwA));(case side2=>exact HC1.out);(case side3=>exact Tabs.below HT.out (bwA));rintro e w403 ⟨rfl,hb⟩;refine ⟨_,rfl,?_⟩;apply stopA;(case other=>exact trivial)))
               case _=>
                first
                 | clear M18
                   replace BK469:=aM (blk_below (g:=gb469) (o:=.cells #[.string ((rd_T86 l0 x47_3).f0),.int .i64 ((rd_T86 l0 x47_3).f1),.bool true] 86 (0,0)) blkZ hb);replace HB:=aM (below_step (bwA) hb)
                   (try clear hb)
                   try go_wp2_with (first|((with_reducible refine gate_dst (N:=11) rfl ?_);refine boxA 11 #[.int .i64 0,.int .i64 0,.string (⟨#[]⟩:ByteArray)] 74 ?_;intro gb474 hg w404 hbox hb;have BK474:=aM (hbox);have GW474:=aM (hgW hg:w.heap.size≤gb474);have GE474:=aM (hgW hg:w.heap.size≤gb474);have NB469_474:=aM (hgL hg BK469:gb469≠gb474);have NB474_469:=aM (hgG hg BK469:gb474≠gb469);replace BK469:=aM (bkB BK469 hb);replace HB:=aM (below_step (bwA) hb);clear hb hbox hg;have hnb405:=NB474_469.out;have hnc405:=NB469_474.out;obtain ⟨hcz406_0,hcz406_1,hcz406_2⟩:=cel3 BK474.out;obtain ⟨hfz406_0,hfz406_1,hfz406_2⟩:=frz3 BK474.out;obtain ⟨hcz407_0,hcz407_1,hcz407_2⟩:=cel3 BK469.out;obtain ⟨hfz407_0,hfz407_1,hfz407_2⟩:=frz3 BK469.out))
                   first
                    | clear M19
                      go_roundg k3
                      case measure=>have:=HJ100.out;have:=HK2.out;have:=HK3.out;omega
                      case rel=>exact ⟨(wrap64 (x47_3+1)),(endS),H',⟨by have:=HJ100.out;have:=HK2.out;have:=HK3.out;omega⟩,⟨bwA⟩⟩
                    | clear M20
                      go_ret;exact ⟨endA,bwA⟩
                 | clear M21
                   replace BK469:=aM (blk_below (g:=gb469) (o:=.cells #[.string ((rd_T86 l0 x47_3).f0),.int .i64 ((rd_T86 l0 x47_3).f1),.bool false] 86 (0,0)) blkZ hb);replace HB:=aM (below_step (bwA) hb)
                   (try clear hb)
                   try go_wp2_with (first|((with_reducible refine gate_dst (N:=11) rfl ?_);refine boxA 11 #[.int .i64 0,.int .i64 0,.string (⟨#[]⟩:ByteArray)] 74 ?_;intro gb474 hg w404 hbox hb;have BK474:=aM (hbox);have GW474:=aM (hgW hg:w.heap.size≤gb474);have GE474:=aM (hgW hg:w.heap.size≤gb474);have NB469_474:=aM (hgL hg BK469:gb469≠gb474);have NB474_469:=aM (hgG hg BK469:gb474≠gb469);replace BK469:=aM (bkB BK469 hb);replace HB:=aM (below_step (bwA) hb);clear hb hbox hg;have hnb405:=NB474_469.out;have hnc405:=NB469_474.out;obtain ⟨hcz406_0,hcz406_1,hcz406_2⟩:=cel3 BK474.out;obtain ⟨hfz406_0,hfz406_1,hfz406_2⟩:=frz3 BK474.out;obtain ⟨hcz407_0,hcz407_1,hcz407_2⟩:=cel3 BK469.out;obtain ⟨hfz407_0,hfz407_1,hfz407_2⟩:=frz3 BK469.out))
                   go_roundg k3
                   case measure=>have:=HJ100.out;have:=HK2.out;have:=HK3.out;omega
                   case rel=>exact ⟨(wrap64 (x47_3+1)),(endS),H',⟨by have:=HJ100.out;have:=HK2.out;have:=HK3.out;omega⟩,⟨bwA⟩⟩
          all_goals
           case _=>
            have p461:0≤(x23_2:Int):=odA;have q461:x23_2<(l1.length:Int):=odA;obtain ⟨ad461,e461,hx461_0,hx461_1,hx461_2,hx461_3⟩:=at_T76 HR1.out x23_2 p461 q461
            cases e461
            replace hx461_0:=crA hx461_0;replace hx461_1:=crA hx461_1;replace hx461_2:=crA hx461_2;replace hx461_3:=crA hx461_3;replace p461:=eq_true p461;replace q461:=eq_true q461;go_wp2_with (first|((with_reducible refine gate_dst (N:=6) rfl ?_);refine boxB 6 #[.string (⟨#[]⟩:ByteArray),.int .i64 0,.int .i64 0,.string (⟨#[]⟩:ByteArray)] 76 HB ?_;clear HB;intro gb462 w301 BK462 GW462 GE462 HB;obtain ⟨hcz302_0,hcz302_1,hcz302_2,hcz302_3⟩:=cel4 BK462.out;obtain ⟨hfz302_0,hfz302_1,hfz302_2,hfz302_3⟩:=frz4 BK462.out)|((with_reducible refine gate_callee (f:=97) rfl ?_);refine goesA (some 31) Tryz.func97 #[.slice A0 l0.length c0,.string ((rd_T76 l1 x23_2).f0)] ?_;(with_reducible refine (schema_Find.calls _ _ _ _ _ _ _ _ _ ?side1 ?side2 ?side3 A204.out).mono ?_);(case side1=>exact Kd.C_below HR0.out (bwA));(case side2=>exact HC0.out);(case side3=>exact Tabs.below HT.out (bwA));rintro e w303 ⟨rfl,hb⟩;refine ⟨_,rfl,?_⟩;replace BK462:=aM (blk_below (g:=gb462) (o:=.cells #[.string ((rd_T76 l1 x23_2).f0),.int .i64 ((rd_T76 l1 x23_2).f1.f0),.int .i64 ((rd_T76 l1 x23_2).f1.f1),.string ((rd_T76 l1 x23_2).f1.f2)] 76 (0,0)) blkZ hb);replace HB:=aM (below_step (bwA) hb);(try clear hb))|((with_reducible refine gate_dst (N:=7) rfl ?_);refine boxA 7 #[.string (⟨#[]⟩:ByteArray),.int .i64 0,.bool false] 86 ?_;intro gb467 hg w304 hbox hb;have BK467:=aM (hbox);have GW467:=aM (hgW hg:w.heap.size≤gb467);have GE467:=aM (hgW hg:w.heap.size≤gb467);have NB462_467:=aM (hgL hg BK462:gb462≠gb467);have NB467_462:=aM (hgG hg BK462:gb467≠gb462);replace BK462:=aM (bkB BK462 hb);replace HB:=aM (below_step (bwA) hb);clear hb hbox hg;have hnb305:=NB467_462.out;have hnc305:=NB462_467.out;obtain ⟨hcz306_0,hcz306_1,hcz306_2⟩:=cel3 BK467.out;obtain ⟨hfz306_0,hfz306_1,hfz306_2⟩:=frz3 BK467.out;apply stopA;(case other=>exact trivial)))
            case _=>
             first
              | clear M11
                obtain ⟨hcz307_0,hcz307_1,hcz307_2,hcz307_3⟩:=cel4 BK462.out;obtain ⟨hfz307_0,hfz307_1,hfz307_2,hfz307_3⟩:=frz4 BK462.out
                (try go_wp2_with (fail))
                first
                 | clear M12
                   go_roundg k2
                   case measure=>have:=HJ100.out;have:=HK2.out;omega
                   case rel=>exact ⟨(wrap64 (x23_2+1)),(endS),H',⟨by have:=HJ100.out;have:=HK2.out;omega⟩,⟨bwA⟩⟩
                 | clear M13
                   go_ret;exact ⟨endA,bwA⟩
              | clear M14
                (try go_wp2_with (fail))
                go_ret;exact ⟨endA,bwA⟩
def forest_Fits.f (k:Nat) (a0_0:ByteArray) (a0_1:ByteArray) (l0_2:List (S86)) (l0_3:List (S86)) (l0_4:List ByteArray) (a0_5:Int) (a0_6:Int) (a0_7:Int) (a1_0:Int) (a1_1:Int) (a1_2:Int) (a1_3:ByteArray) (l1_4:List (S76)):Option (Int):=(forest_Check.f k a0_0 a0_1 l0_2 l0_3 l0_4 a0_5 a0_6 a0_7).bind fun t477=>(if t477=true then ((name_Same.f a0_0 a1_3).bind fun t478=>(if t478=true then ((schema_Fits.f k l0_3 l1_4).bind fun t479=>(some t479)) else (some 4))) else (some 1))
theorem forest_Fits.calls (k:Nat) (a0_0:ByteArray) (a0_1:ByteArray) (A0_2:Option Addr) (c0_2:Nat) (l0_2:List (S86)) (A0_3:Option Addr) (c0_3:Nat) (l0_3:List (S86)) (A0_4:Option Addr) (c0_4:Nat) (l0_4:List ByteArray) (a0_5:Int) (a0_6:Int) (a0_7:Int) (a1_0:Int) (a1_1:Int) (a1_2:Int) (a1_3:ByteArray) (A1_4:Option Addr) (c1_4:Nat) (l1_4:List (S76)) (r:Int) (w:World) (hr0_2:Kd.C k86 w A0_2 l0_2.length l0_2) (hc0_2:l0_2.length≤c0_2) (hr0_3:Kd.C k86 w A0_3 l0_3.length l0_3) (hc0_3:l0_3.length≤c0_3) (hr0_4:Kd.C Kd.string w A0_4 l0_4.length l0_4) (hc0_4:l0_4.length≤c0_4) (hr1_4:Kd.C k76 w A1_4 l1_4.length l1_4) (hc1_4:l1_4.length≤c1_4) (hT:Tabs w) (h:forest_Fits.f k a0_0 a0_1 l0_2 l0_3 l0_4 a0_5 a0_6 a0_7 a1_0 a1_1 a1_2 a1_3 l1_4=some r):
  Calls Tryz.prog 31 #[.agg #[.string a0_0,.string a0_1,.slice A0_2 l0_2.length c0_2,.slice A0_3 l0_3.length c0_3,.slice A0_4 l0_4.length c0_4,.int .i64 a0_5,.int .i64 a0_6,.int .i64 a0_7],.agg #[.int .i64 a1_0,.int .i64 a1_1,.int .i64 a1_2,.string a1_3,.slice A1_4 l1_4.length c1_4]] w fun e w'=>e=.returned (.int .i64 r)∧Below w.heap.size w w':=by
 have hu30:=Tryz.underlying30;have hu66:=Tryz.underlying66;have HR0_2:=aM hr0_2;have HC0_2:=aM hc0_2;clear hr0_2 hc0_2;have HR0_3:=aM hr0_3;have HC0_3:=aM hc0_3;clear hr0_3 hc0_3;have HR0_4:=aM hr0_4;have HC0_4:=aM hc0_4;clear hr0_4 hc0_4;have HR1_4:=aM hr1_4;have HC1_4:=aM hc1_4;clear hr1_4 hc1_4;have HB:=aM (Below.refl w.heap.size w);unfold forest_Fits.f at h;have H:=h;clear h;have HT:=aM hT;clear hT;replace H:=bnA H;obtain ⟨t477,A3,H⟩:=H;revert H;refine itR ?L5p ?L5n
 case' L5p=>
  intro c4 H;subst c4;replace H:=bnA H;obtain ⟨t478,A5,H⟩:=H;revert H;refine itR ?L6p ?L6n
  case' L6p=>
   intro c6 H;subst c6;replace H:=bnA H;obtain ⟨t479,A7,H⟩:=H;obtain rfl:=sI H;have M1:=trivial;have M2:=trivial
  case' L6n=>
   intro c6 H;replace c6:=Bool.eq_false_iff.mpr c6;subst c6;obtain rfl:=sI H;have M1:=trivial;have M3:=trivial
 case' L5n=>
  intro c4 H;replace c4:=Bool.eq_false_iff.mpr c4;subst c4;obtain rfl:=sI H;have M4:=trivial
 all_goals
  case _=>
   go_enter Tryz.func31,Tryz.ntmps31;go_wp2_with (first|((with_reducible refine gate_dst (N:=2) rfl ?_);refine boxB 2 #[.string a0_0,.string a0_1,.slice A0_2 l0_2.length c0_2,.slice A0_3 l0_3.length c0_3,.slice A0_4 l0_4.length c0_4,.int .i64 a0_5,.int .i64 a0_6,.int .i64 a0_7] 30 HB ?_;clear HB;intro gb475 w101 BK475 GW475 GE475 HB)|((with_reducible refine gate_dst (N:=3) rfl ?_);refine boxA 3 #[.int .i64 a1_0,.int .i64 a1_1,.int .i64 a1_2,.string a1_3,.slice A1_4 l1_4.length c1_4] 66 ?_;intro gb476 hg w102 hbox hb;have BK476:=aM (hbox);have GW476:=aM (hgW hg:w.heap.size≤gb476);have GE476:=aM (hgW hg:w.heap.size≤gb476);have NB475_476:=aM (hgL hg BK475:gb475≠gb476);have NB476_475:=aM (hgG hg BK475:gb476≠gb475);replace BK475:=aM (bkB BK475 hb);replace HB:=aM (below_step (bwA) hb);clear hb hbox hg;have hnb103:=NB475_476.out;have hnc103:=NB476_475.out;obtain ⟨hcz104_0,hcz104_1,hcz104_2,hcz104_3,hcz104_4,hcz104_5,hcz104_6,hcz104_7⟩:=cel8 BK475.out;obtain ⟨hfz104_0,hfz104_1,hfz104_2,hfz104_3,hfz104_4,hfz104_5,hfz104_6,hfz104_7⟩:=frz8 BK475.out)|((with_reducible refine gate_callee (f:=36) rfl ?_);refine goesA (some 7) Tryz.func36 #[.agg #[.string a0_0,.string a0_1,.slice A0_2 l0_2.length c0_2,.slice A0_3 l0_3.length c0_3,.slice A0_4 l0_4.length c0_4,.int .i64 a0_5,.int .i64 a0_6,.int .i64 a0_7]] ?_;(with_reducible refine (forest_Check.calls _ _ _ _ _ _ _ _ _ _ _ _ _ _ _ _ _ ?side1 ?side2 ?side3 ?side4 ?side5 ?side6 ?side7 A3.out).mono ?_);(case side1=>exact Kd.C_below HR0_2.out (bwA));(case side2=>exact HC0_2.out);(case side3=>exact Kd.C_below HR0_3.out (bwA));(case side4=>exact HC0_3.out);(case side5=>exact Kd.C_below HR0_4.out (bwA));(case side6=>exact HC0_4.out);(case side7=>exact Tabs.below HT.out (bwA));rintro e w105 ⟨rfl,hb⟩;refine ⟨_,rfl,?_⟩;replace BK475:=aM (bkB BK475 hb);replace BK476:=aM (bkB BK476 hb);replace HB:=aM (below_step (bwA) hb);(try clear hb);apply stopA;(case other=>exact trivial)))
   case _=>
    first
     | clear M1
       obtain ⟨hcz106_0,hcz106_1,hcz106_2,hcz106_3,hcz106_4,hcz106_5,hcz106_6,hcz106_7⟩:=cel8 BK475.out;obtain ⟨hfz106_0,hfz106_1,hfz106_2,hfz106_3,hfz106_4,hfz106_5,hfz106_6,hfz106_7⟩:=frz8 BK475.out;obtain ⟨hcz107_0,hcz107_1,hcz107_2,hcz107_3,hcz107_4⟩:=cel5 BK476.out;obtain ⟨hfz107_0,hfz107_1,hfz107_2,hfz107_3,hfz107_4⟩:=frz5 BK476.out;go_wp2_with (first|((with_reducible refine gate_callee (f:=60) rfl ?_);refine goesA (some 14) Tryz.func60 #[.string a0_0,.string a1_3] ?_;(with_reducible refine (name_Same.calls _ _ _ _ ?side1 A5.out).mono ?_);(case side1=>exact Tabs.below HT.out (bwA));rintro e w108 ⟨rfl,hb⟩;refine ⟨_,rfl,?_⟩;replace BK475:=aM (bkB BK475 hb);replace BK476:=aM (bkB BK476 hb);replace HB:=aM (below_step (bwA) hb);(try clear hb);apply stopA;(case other=>exact trivial)))
       case _=>
        first
         | clear M2
           obtain ⟨hcz109_0,hcz109_1,hcz109_2,hcz109_3,hcz109_4,hcz109_5,hcz109_6,hcz109_7⟩:=cel8 BK475.out;obtain ⟨hfz109_0,hfz109_1,hfz109_2,hfz109_3,hfz109_4,hfz109_5,hfz109_6,hfz109_7⟩:=frz8 BK475.out;obtain ⟨hcz110_0,hcz110_1,hcz110_2,hcz110_3,hcz110_4⟩:=cel5 BK476.out;obtain ⟨hfz110_0,hfz110_1,hfz110_2,hfz110_3,hfz110_4⟩:=frz5 BK476.out;(try go_wp2_with (first|((with_reducible refine gate_callee (f:=68) rfl ?_);refine goesA (some 20) Tryz.func68 #[.slice A0_3 l0_3.length c0_3,.slice A1_4 l1_4.length c1_4] ?_;(with_reducible refine (schema_Fits.calls _ _ _ _ _ _ _ _ _ ?side1 ?side2 ?side3 ?side4 ?side5 A7.out).mono ?_);(case side1=>exact Kd.C_below HR0_3.out (bwA));(case side2=>exact HC0_3.out);(case side3=>exact Kd.C_below HR1_4.out (bwA));(case side4=>exact HC1_4.out);(case side5=>exact Tabs.below HT.out (bwA));rintro e w111 ⟨rfl,hb⟩;refine ⟨_,rfl,?_⟩;replace BK475:=aM (bkB BK475 hb);replace BK476:=aM (bkB BK476 hb);replace HB:=aM (below_step (bwA) hb);(try clear hb))));go_ret;exact ⟨endA,bwA⟩
         | clear M3
           (try go_wp2_with (fail))
           go_ret;exact ⟨endA,bwA⟩
     | clear M4
       (try go_wp2_with (fail))
       go_ret;exact ⟨endA,bwA⟩
def R02_tail.f (a0:ByteArray) (a1:Int):Option (Bool):=if a1<(a0.size:Int) then (if 0≤a1 then (if (bt a0 a1)≥128 then (some (decide ((bt a0 a1)<192))) else (some false)) else (none)) else (some false)
theorem R02_tail.calls (a0:ByteArray) (a1:Int) (r:Bool) (w:World) (h:R02_tail.f a0 a1=some r):
  Calls Tryz.prog 163 #[.string a0,.int .i64 a1] w fun e w'=>e=.returned (.bool r)∧Drawn0 w w':=by
 unfold R02_tail.f at h;have H:=h;clear h;revert H;refine itR ?L3p ?L3n
 case' L3p=>
  intro c3 H;have c3b0:=dT c3;clear c3;replace H:=itN H;obtain ⟨c4,H⟩:=H;have c4b0:=dT c4;clear c4;revert H;refine itR ?L4p ?L4n
  case' L4p=>
   intro c6 H;have c6b0:=geT c6;clear c6;obtain rfl:=sI H;have M1:=trivial
  case' L4n=>
   intro c6 H;have c6b0:=geF c6;clear c6;obtain rfl:=sI H;have M2:=trivial
 case' L3n=>
  intro c3 H;have c3b0:=dF c3;clear c3;obtain rfl:=sI H;go_enter Tryz.func163,Tryz.ntmps163;go_wp2;go_ret;exact ⟨endS,drA⟩
 all_goals
  case _=>
   have p5:0≤(a1:Int):=odA;have q5:a1<(a0.size:Int):=odA;have hx5:=bt_at a0 a1;replace p5:=eq_true p5;replace q5:=eq_true q5
   first
    | clear M1
      have p7:0≤(a1:Int):=odA;have q7:a1<(a0.size:Int):=odA;have hx7:=bt_at a0 a1;replace p7:=eq_true p7;replace q7:=eq_true q7;go_enter Tryz.func163,Tryz.ntmps163;go_wp2;go_ret;exact ⟨endS,drA⟩
    | clear M2
      go_enter Tryz.func163,Tryz.ntmps163;go_wp2;go_ret;exact ⟨endS,drA⟩
end Go.Proofs.YtpjjbaclphoilaaGreatDoor.A
