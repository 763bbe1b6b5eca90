import Derived.Test.YtpjjbaclphoilaaGreatDoorAx0
import Derived.Test.YtpjjbaclphoilaaGreatDoorAx14
namespace Go.Proofs.YtpjjbaclphoilaaGreatDoor.A
open Go.RowKit Go.Proofs.YtpjjbaclphoilaaGreatDoorW.PrintWords Go.Proofs.YtpjjbaclphoilaaGreatDoorW.PrintLast Go.Proofs.YtpjjbaclphoilaaGreatDoorW.PrintMore
attribute [local go_sem] max2_int min2_int max_two min_two max_three min_three max_four min_four   -- for this text's walks alone
set_option linter.unusedVariables false
set_option linter.unusedSimpArgs false
set_option maxHeartbeats 8000000
set_option maxRecDepth 100000
mutual
def R02_First.j0:Nat→ByteArray→Int→Bool→Option (Int × Int)
 | 0,_,_,_=>none
 | k+1,x0,x3,x25=>if x25=true then (if 1<(x0.size:Int) then (some (wrap64 ((wrap64 ((wrap64 (64 * (wrap64 (x3-192))))+(wrap64 (bt x0 1))))-128),2)) else (none)) else (if x3≥224 then (if x3<240 then ((R02_tail.f x0 1).bind fun t482=>(if t482=true then ((R02_tail.f x0 2).bind fun t483=>(R02_First.j1 k x0 x3 t483)) else (R02_First.j1 k x0 x3 false))) else (R02_First.j1 k x0 x3 false)) else (R02_First.j1 k x0 x3 false))
def R02_First.j1:Nat→ByteArray→Int→Bool→Option (Int × Int)
 | 0,_,_,_=>none
 | k+1,x0,x3,x48=>if x48=true then (if 1<(x0.size:Int) then (if 2<(x0.size:Int) then (if (wrap64 ((wrap64 ((wrap64 ((wrap64 (4096 * (wrap64 (x3-224))))+(wrap64 (64 * (wrap64 ((wrap64 (bt x0 1))-128))))))+(wrap64 (bt x0 2))))-128))≥2048 then (if (wrap64 ((wrap64 ((wrap64 ((wrap64 (4096 * (wrap64 (x3-224))))+(wrap64 (64 * (wrap64 ((wrap64 (bt x0 1))-128))))))+(wrap64 (bt x0 2))))-128))<55296 then (some (wrap64 ((wrap64 ((wrap64 ((wrap64 (4096 * (wrap64 (x3-224))))+(wrap64 (64 * (wrap64 ((wrap64 (bt x0 1))-128))))))+(wrap64 (bt x0 2))))-128),3)) else (if (wrap64 ((wrap64 ((wrap64 ((wrap64 (4096 * (wrap64 (x3-224))))+(wrap64 (64 * (wrap64 ((wrap64 (bt x0 1))-128))))))+(wrap64 (bt x0 2))))-128))>57343 then (some (wrap64 ((wrap64 ((wrap64 ((wrap64 (4096 * (wrap64 (x3-224))))+(wrap64 (64 * (wrap64 ((wrap64 (bt x0 1))-128))))))+(wrap64 (bt x0 2))))-128),3)) else (R02_First.j2 k x0 x3))) else (R02_First.j2 k x0 x3)) else (none)) else (none)) else (R02_First.j2 k x0 x3)
def R02_First.j2:Nat→ByteArray→Int→Option (Int × Int)
 | 0,_,_=>none
 | k+1,x0,x3=>if x3≥240 then (if x3<245 then ((R02_tail.f x0 1).bind fun t484=>(if t484=true then ((R02_tail.f x0 2).bind fun t485=>(if t485=true then ((R02_tail.f x0 3).bind fun t486=>(R02_First.j3 k x0 x3 t486)) else (R02_First.j3 k x0 x3 false))) else (R02_First.j3 k x0 x3 false))) else (R02_First.j3 k x0 x3 false)) else (R02_First.j3 k x0 x3 false)
def R02_First.j3:Nat→ByteArray→Int→Bool→Option (Int × Int)
 | 0,_,_,_=>none
 | k+1,x0,x3,x92=>if x92=true then (if 1<(x0.size:Int) then (if 2<(x0.size:Int) then (if 3<(x0.size:Int) then (if (wrap64 ((wrap64 ((wrap64 ((wrap64 ((wrap64 (262144 * (wrap64 (x3-240))))+(wrap64 (4096 * (wrap64 ((wrap64 (bt x0 1))-128))))))+(wrap64 (64 * (wrap64 ((wrap64 (bt x0 2))-128))))))+(wrap64 (bt x0 3))))-128))≥65536 then (if (wrap64 ((wrap64 ((wrap64 ((wrap64 ((wrap64 (262144 * (wrap64 (x3-240))))+(wrap64 (4096 * (wrap64 ((wrap64 (bt x0 1))-128))))))+(wrap64 (64 * (wrap64 ((wrap64 (bt x0 2))-128))))))+(wrap64 (bt x0 3))))-128))≤1114111 then (some (wrap64 ((wrap64 ((wrap64 ((wrap64 ((wrap64 (262144 * (wrap64 (x3-240))))+(wrap64 (4096 * (wrap64 ((wrap64 (bt x0 1))-128))))))+(wrap64 (64 * (wrap64 ((wrap64 (bt x0 2))-128))))))+(wrap64 (bt x0 3))))-128),4)) else (some (0,0))) else (some (0,0))) else (none)) else (none)) else (none)) else (some (0,0))
end
def R02_First.f (k:Nat) (a0:ByteArray):Option (Int × Int):=if a0.toList=([]:List UInt8) then (some (0,0)) else (if 0<(a0.size:Int) then (if (wrap64 (bt a0 0))<128 then (some (wrap64 (bt a0 0),1)) else (if (wrap64 (bt a0 0))≥194 then (if (wrap64 (bt a0 0))<224 then ((R02_tail.f a0 1).bind fun t481=>(R02_First.j0 k a0 (wrap64 (bt a0 0)) t481)) else (R02_First.j0 k a0 (wrap64 (bt a0 0)) false)) else (R02_First.j0 k a0 (wrap64 (bt a0 0)) false))) else (none))
theorem R02_First.mono_l:∀ k,(∀ y0 y1 y2,LeO (R02_First.j0 k y0 y1 y2) (R02_First.j0 (k+1) y0 y1 y2))∧(∀ y0 y1 y2,LeO (R02_First.j1 k y0 y1 y2) (R02_First.j1 (k+1) y0 y1 y2))∧(∀ y0 y1,LeO (R02_First.j2 k y0 y1) (R02_First.j2 (k+1) y0 y1))∧(∀ y0 y1 y2,LeO (R02_First.j3 k y0 y1 y2) (R02_First.j3 (k+1) y0 y1 y2))
 | 0=>⟨fun _ _ _ r h=>by simp [R02_First.j0] at h,fun _ _ _ r h=>by simp [R02_First.j1] at h,fun _ _ r h=>by simp [R02_First.j2] at h,fun _ _ _ r h=>by simp [R02_First.j3] at h⟩
 | k+1=>by
  obtain ⟨ih0,ih1,ih2,ih3⟩:=R02_First.mono_l k;refine ⟨?_,?_,?_,?_⟩
  all_goals intros
  all_goals first|unfold R02_First.j0|unfold R02_First.j1|unfold R02_First.j2|unfold R02_First.j3
  all_goals repeat' (with_reducible first|exact ih0 _ _ _|exact ih1 _ _ _|exact ih2 _ _|exact ih3 _ _ _|exact LeO.refl _|exact LeO.none _|refine LeO.ite ?_ ?_|refine LeO.bind ?_ (fun _=>?_))
theorem R02_First.mono:∀ a0 k,LeO (R02_First.f k a0) (R02_First.f (k+1) a0):=by
 intro a0 k;obtain ⟨ih0,ih1,ih2,ih3⟩:=R02_First.mono_l k;unfold R02_First.f
 repeat' (with_reducible first|exact ih0 _ _ _|exact ih1 _ _ _|exact ih2 _ _|exact ih3 _ _ _|exact LeO.refl _|exact LeO.none _|refine LeO.ite ?_ ?_|refine LeO.bind ?_ (fun _=>?_))
theorem R02_First.calls (k:Nat) (a0:ByteArray) (r1:Int) (r2:Int) (w:World) (h:R02_First.f k a0=some (r1,r2)):
  Calls Tryz.prog 131 #[.string a0] w fun e w'=>e=.returned (.agg #[.int .i64 r1,.int .i64 r2])∧Below w.heap.size w w':=by
 have hu184:=Tryz.underlying184;have HB:=aM (Below.refl w.heap.size w);unfold R02_First.f at h;have H:=h;clear h;revert H;refine itQ ?L64p ?L64n
 case' L64p=>
  rintro ⟨c2b0,c2b1⟩ H;obtain ⟨rfl,rfl⟩:=sJ2 H;have M60:=trivial;have M61:=trivial
 case' L64n=>
  rintro ⟨c2b0,c2b1⟩ c2 H;replace H:=itN H;obtain ⟨c3,H⟩:=H;have c3b0:=dT c3;have c3b1:decide (0<a0.size)=true:=dT (by omega);clear c3;revert H;refine itR ?L65p ?L65n
  case' L65p=>
   intro c5 H;have c5b0:=dT c5;clear c5;obtain ⟨rfl,rfl⟩:=sJ2 H;have M60:=trivial;have M62:=trivial
  case' L65n=>
   intro c5 H;have c5b0:=dF c5;clear c5;have HC101:=aM H;clear H;have M63:=trivial
 all_goals
  case _=>
   go_enter Tryz.func131,Tryz.ntmps131
   first
    | clear M60
      go_wp2_with (first|((with_reducible refine gate_dst (N:=2) rfl ?_);refine boxB 2 #[.int .i64 0,.int .i64 0] 184 HB ?_;clear HB;intro gb480 w101 BK480 GW480 GE480 HB;apply stopA;(case other=>exact trivial)))
      case _=>
       first
        | clear M61
          obtain ⟨hcz102_0,hcz102_1⟩:=cel2 BK480.out;obtain ⟨hfz102_0,hfz102_1⟩:=frz2 BK480.out
          (try go_wp2_with (fail))
          (repeat (go_quiet (first|((with_reducible refine gate_dst (N:=2) rfl ?_);refine boxA 2 #[.int .i64 0,.int .i64 0] 184 ?_;intro gb480 hg w101 hbox hb;have n0_:=aM (below_step (bwA) hb);have n1_:=aM (hbox);have n2_:=aM (hgW hg:w.heap.size≤gb480);have n3_:=aM (hgW hg:w.heap.size≤gb480);clear HB;have HB:=n0_;have BK480:=n1_;have GW480:=n2_;have GE480:=n3_;clear n0_ n1_ n2_ n3_;clear hb hbox hg;have hcz102_0:=celA BK480.out 0 (.int .i64 0);have hcz102_1:=celA BK480.out 1 (.int .i64 0);have hfz102_0:=blk_frozen BK480.out 0;have hfz102_1:=blk_frozen BK480.out 1));try go_wp2_with (first|((with_reducible refine gate_dst (N:=2) rfl ?_);refine boxA 2 #[.int .i64 0,.int .i64 0] 184 ?_;intro gb480 hg w101 hbox hb;have n0_:=aM (below_step (bwA) hb);have n1_:=aM (hbox);have n2_:=aM (hgW hg:w.heap.size≤gb480);have n3_:=aM (hgW hg:w.heap.size≤gb480);clear HB;have HB:=n0_;have BK480:=n1_;have GW480:=n2_;have GE480:=n3_;clear n0_ n1_ n2_ n3_;clear hb hbox hg;have hcz102_0:=celA BK480.out 0 (.int .i64 0);have hcz102_1:=celA BK480.out 1 (.int .i64 0);have hfz102_0:=blk_frozen BK480.out 0;have hfz102_1:=blk_frozen BK480.out 1))));refine bodyPost_ret (results_cell_row rfl _ _ gb480 184 #[.int .i64 0,.int .i64 0] (0,0) _ rfl blkZ Tryz.underlying184 rfl (by kernel_rfl)) rfl ?_;exact ⟨endA,bwA⟩
        | clear M62
          have p4:0≤(0:Int):=(by omega);have q4:0<a0.size:=(by have:(0:Int)<(a0.size:Int):=odA;omega);have hx4:∀ h:0<a0.size,((a0[0]'h).toNat:Int)=bt a0 0:=bt_at a0 0;clear p4;have qi4:(0<(a0.size:Int))=True:=eq_true (odA);replace q4:=eq_true q4;obtain ⟨hcz102_0,hcz102_1⟩:=cel2 BK480.out;obtain ⟨hfz102_0,hfz102_1⟩:=frz2 BK480.out
          (try go_wp2_with (fail))
          (repeat (go_quiet (first|((with_reducible refine gate_dst (N:=2) rfl ?_);refine boxA 2 #[.int .i64 0,.int .i64 0] 184 ?_;intro gb480 hg w101 hbox hb;have n0_:=aM (below_step (bwA) hb);have n1_:=aM (hbox);have n2_:=aM (hgW hg:w.heap.size≤gb480);have n3_:=aM (hgW hg:w.heap.size≤gb480);clear HB;have HB:=n0_;have BK480:=n1_;have GW480:=n2_;have GE480:=n3_;clear n0_ n1_ n2_ n3_;clear hb hbox hg;have p4:0≤(0:Int):=(by omega);have q4:0<a0.size:=(by have:(0:Int)<(a0.size:Int):=odA;omega);have hx4:∀ h:0<a0.size,((a0[0]'h).toNat:Int)=bt a0 0:=bt_at a0 0;clear p4;have qi4:(0<(a0.size:Int))=True:=eq_true (odA);replace q4:=eq_true q4;have hcz102_0:=celA BK480.out 0 (.int .i64 0);have hcz102_1:=celA BK480.out 1 (.int .i64 0);have hfz102_0:=blk_frozen BK480.out 0;have hfz102_1:=blk_frozen BK480.out 1));try go_wp2_with (first|((with_reducible refine gate_dst (N:=2) rfl ?_);refine boxA 2 #[.int .i64 0,.int .i64 0] 184 ?_;intro gb480 hg w101 hbox hb;have n0_:=aM (below_step (bwA) hb);have n1_:=aM (hbox);have n2_:=aM (hgW hg:w.heap.size≤gb480);have n3_:=aM (hgW hg:w.heap.size≤gb480);clear HB;have HB:=n0_;have BK480:=n1_;have GW480:=n2_;have GE480:=n3_;clear n0_ n1_ n2_ n3_;clear hb hbox hg;have p4:0≤(0:Int):=(by omega);have q4:0<a0.size:=(by have:(0:Int)<(a0.size:Int):=odA;omega);have hx4:∀ h:0<a0.size,((a0[0]'h).toNat:Int)=bt a0 0:=bt_at a0 0;clear p4;have qi4:(0<(a0.size:Int))=True:=eq_true (odA);replace q4:=eq_true q4;have hcz102_0:=celA BK480.out 0 (.int .i64 0);have hcz102_1:=celA BK480.out 1 (.int .i64 0);have hfz102_0:=blk_frozen BK480.out 0;have hfz102_1:=blk_frozen BK480.out 1))));refine bodyPost_ret (results_cell_row rfl _ _ gb480 184 #[.int .i64 (wrap64 (bt a0 0)),.int .i64 1] (0,0) _ rfl blkZ Tryz.underlying184 rfl (by kernel_rfl)) rfl ?_;exact ⟨endA,bwA⟩
    | clear M63
      go_upto_region 6 with (first|((with_reducible refine gate_dst (N:=2) rfl ?_);refine boxA 2 #[.int .i64 0,.int .i64 0] 184 ?_;intro gb480 hg w102 hbox hb;have n0_:=aM (below_step (bwA) hb);have n1_:=aM (hbox);have n2_:=aM (hgW hg:w.heap.size≤gb480);have n3_:=aM (hgW hg:w.heap.size≤gb480);clear HB;have HB:=n0_;have BK480:=n1_;have GW480:=n2_;have GE480:=n3_;clear n0_ n1_ n2_ n3_;clear hb hbox hg;have p4:0≤(0:Int):=(by omega);have q4:0<a0.size:=(by have:(0:Int)<(a0.size:Int):=odA;omega);have hx4:∀ h:0<a0.size,((a0[0]'h).toNat:Int)=bt a0 0:=bt_at a0 0;clear p4;have qi4:(0<(a0.size:Int))=True:=eq_true (odA);replace q4:=eq_true q4));repeat (go_quiet (first|((with_reducible refine gate_dst (N:=2) rfl ?_);refine boxA 2 #[.int .i64 0,.int .i64 0] 184 ?_;intro gb480 hg w102 hbox hb;have n0_:=aM (below_step (bwA) hb);have n1_:=aM (hbox);have n2_:=aM (hgW hg:w.heap.size≤gb480);have n3_:=aM (hgW hg:w.heap.size≤gb480);clear HB;have HB:=n0_;have BK480:=n1_;have GW480:=n2_;have GE480:=n3_;clear n0_ n1_ n2_ n3_;clear hb hbox hg;have p4:0≤(0:Int):=(by omega);have q4:0<a0.size:=(by have:(0:Int)<(a0.size:Int):=odA;omega);have hx4:∀ h:0<a0.size,((a0[0]'h).toNat:Int)=bt a0 0:=bt_at a0 0;clear p4;have qi4:(0<(a0.size:Int))=True:=eq_true (odA);replace q4:=eq_true q4));go_upto_region 6 with (first|((with_reducible refine gate_dst (N:=2) rfl ?_);refine boxA 2 #[.int .i64 0,.int .i64 0] 184 ?_;intro gb480 hg w102 hbox hb;have n0_:=aM (below_step (bwA) hb);have n1_:=aM (hbox);have n2_:=aM (hgW hg:w.heap.size≤gb480);have n3_:=aM (hgW hg:w.heap.size≤gb480);clear HB;have HB:=n0_;have BK480:=n1_;have GW480:=n2_;have GE480:=n3_;clear n0_ n1_ n2_ n3_;clear hb hbox hg;have p4:0≤(0:Int):=(by omega);have q4:0<a0.size:=(by have:(0:Int)<(a0.size:Int):=odA;omega);have hx4:∀ h:0<a0.size,((a0[0]'h).toNat:Int)=bt a0 0:=bt_at a0 0;clear p4;have qi4:(0<(a0.size:Int))=True:=eq_true (odA);replace q4:=eq_true q4)))
      (try simp only [Act.put,List.setIfInBounds_toArray,List.set_cons_zero,List.set_cons_succ])
      go_cut [25] (fun v25 wc=>∃ (kq:Nat) (x25_100:Bool),v25=.bool x25_100∧Aside0 (R02_First.j0 kq a0 (wrap64 (bt a0 0)) x25_100=some (r1,r2))∧Aside0 (kq≤k)∧Aside0 (wc.heap[gb480]? = some (.cells #[.int .i64 0,.int .i64 0] 184 (0,0)))∧Aside0 (Below w.heap.size w wc))
      case first=>
       have H:=HC101.out;clear HC101;revert H;refine itR ?L1p ?L1n
       case' L1p=>
        intro c103 H;have c103b0:=geT c103;clear c103
        (first|rw [c103b0]|(simp only [i64_w,i32_w];rw [c103b0])|skip)
        revert H;refine itR ?L2p ?L2n
        case' L2p=>
         intro c104 H;have c104b0:=dT c104;clear c104;replace H:=bnA H;obtain ⟨t481,A105,H⟩:=H;have H':=aM H;clear H;(try go_wp2_with (first|(go_at_call 163;(with_reducible refine (R02_tail.calls _ _ _ _ A105.out).mono ?_);rintro e w' ⟨rfl,⟨nd,rfl⟩⟩;(try first|exact ⟨rfl,_,World.drewN_drewN _ _ _⟩|exact ⟨rfl,_,Eq.trans (World.drewN_drewN _ _ _) (congrArg (World.drewN _) (Nat.add_assoc _ _ _))⟩))));repeat (go_quiet (first|(go_at_call 163;(with_reducible refine (R02_tail.calls _ _ _ _ A105.out).mono ?_);rintro e w' ⟨rfl,⟨nd,rfl⟩⟩;(try first|exact ⟨rfl,_,World.drewN_drewN _ _ _⟩|exact ⟨rfl,_,Eq.trans (World.drewN_drewN _ _ _) (congrArg (World.drewN _) (Nat.add_assoc _ _ _))⟩)));try go_wp2_with (first|(go_at_call 163;(with_reducible refine (R02_tail.calls a0 1 t481 _ A105.out).mono ?_);rintro e w' ⟨rfl,⟨nd,rfl⟩⟩;(try first|exact ⟨rfl,_,World.drewN_drewN _ _ _⟩|exact ⟨rfl,_,Eq.trans (World.drewN_drewN _ _ _) (congrArg (World.drewN _) (Nat.add_assoc _ _ _))⟩))))
         go_meet
         case rel=>exact ⟨_,(t481),(endS),H',⟨by first|omega|exact Nat.le_refl _⟩,⟨blkZ⟩,⟨bwA⟩⟩
        case' L2n=>
         intro c104 H;have c104b0:=dF c104;clear c104;have H':=aM H;clear H
       case' L1n=>
        intro c103 H;have c103b0:=geF c103;clear c103
        (first|rw [c103b0]|(simp only [i64_w,i32_w];rw [c103b0])|skip)
        have H':=aM H;clear H
       all_goals
        case _=>
         go_wp2;repeat (go_quiet (fail);try go_wp2)
         go_meet
         case rel=>exact ⟨_,(false),(endS),H',⟨by first|omega|exact Nat.le_refl _⟩,⟨blkZ⟩,⟨bwA⟩⟩
      case rest=>
       clear HC101;(try clear c1);(try clear c2);(try clear c2b0);(try clear c2b1);(try clear p2);(try clear c3);(try clear c3b0);(try clear c3b1);(try clear p4);(try clear q4);(try clear hx4);(try clear qi4);(try clear c5);(try clear c5b0);(try clear p6);(try clear c10);(try clear c13);(try clear p64);(try clear hcz102_0);(try clear hcz102_1);(try clear hfz102_0);(try clear hfz102_1);(try clear p4);(try clear q4);obtain ⟨kq,x25_100,rfl,HA,HJ100,BK480,HB⟩:=hcut
       cases kq with
       | zero=>exact absurd HA.out (by simp [R02_First.j0])
       | succ kj100=>
        have H:=HA.out;clear HA;simp only [R02_First.j0] at H;revert H;refine itR ?L31p ?L31n
        case' L31p=>
         intro c103 H;subst c103;replace H:=itN H;obtain ⟨c104,H⟩:=H;have c104b0:=dT c104;have c104b1:decide (1<a0.size)=true:=dT (by omega);clear c104;obtain ⟨rfl,rfl⟩:=sJ2 H;have p105:0≤(1:Int):=(by omega);have q105:1<a0.size:=(by have:(1:Int)<(a0.size:Int):=odA;omega);have hx105:∀ h:1<a0.size,((a0[1]'h).toNat:Int)=bt a0 1:=bt_at a0 1;clear p105;have qi105:(1<(a0.size:Int))=True:=eq_true (odA);replace q105:=eq_true q105;obtain ⟨hcz201_0,hcz201_1⟩:=cel2 BK480.out;obtain ⟨hfz201_0,hfz201_1⟩:=frz2 BK480.out;go_wp2;(repeat (go_quiet (fail);try go_wp2));refine bodyPost_ret (results_cell_row rfl _ _ gb480 184 #[.int .i64 (wrap64 ((wrap64 ((wrap64 (64 * (wrap64 ((wrap64 (bt a0 0))-192))))+(wrap64 (bt a0 1))))-128)),.int .i64 2] (0,0) _ rfl blkZ Tryz.underlying184 rfl (by kernel_rfl)) rfl ?_;exact ⟨endA,bwA⟩
        case' L31n=>
         intro c103 H;replace c103:=Bool.eq_false_iff.mpr c103;subst c103;have HC201:=aM H;clear H;go_upto_region 8 with (fail);(repeat (go_quiet (fail);go_upto_region 8 with (fail)));go_cut [48] (fun v48 wc=>∃ (kq:Nat) (x48_200:Bool),v48=.bool x48_200∧Aside0 (R02_First.j1 kq a0 (wrap64 (bt a0 0)) x48_200=some (r1,r2))∧Aside0 (kq≤kj100)∧Aside0 (wc.heap[gb480]? = some (.cells #[.int .i64 0,.int .i64 0] 184 (0,0)))∧Aside0 (Below w.heap.size w wc))
         case first=>
          have H:=HC201.out;clear HC201;revert H;refine itR ?L36p ?L36n
          case' L36p=>
           intro c202 H;have c202b0:=geT c202;clear c202
           (first|rw [c202b0]|(simp only [i64_w,i32_w];rw [c202b0])|skip)
           revert H;refine itR ?L37p ?L37n
           case' L37p=>
            intro c203 H;have c203b0:=dT c203;clear c203;replace H:=bnA H;obtain ⟨t482,A204,H⟩:=H;revert H;refine itR ?L38p ?L38n
            case' L38p=>
             intro c205 H;subst c205;replace H:=bnA H;obtain ⟨t483,A206,H⟩:=H;have H':=aM H;clear H;have M32:=trivial;have M33:=trivial
            case' L38n=>
             intro c205 H;replace c205:=Bool.eq_false_iff.mpr c205;subst c205;have H':=aM H;clear H;have M32:=trivial;have M34:=trivial
           case' L37n=>
            intro c203 H;have c203b0:=dF c203;clear c203;have H':=aM H;clear H;have M35:=trivial
          case' L36n=>
           intro c202 H;have c202b0:=geF c202;clear c202
           (first|rw [c202b0]|(simp only [i64_w,i32_w];rw [c202b0])|skip)
           have H':=aM H;clear H;have M35:=trivial
          all_goals
           case _=>
            first
             | clear M32
               go_wp2_with (first|(go_at_call 163;(with_reducible refine (R02_tail.calls _ _ _ _ A204.out).mono ?_);rintro e w' ⟨rfl,⟨nd,rfl⟩⟩;(try first|exact ⟨rfl,_,World.drewN_drewN _ _ _⟩|exact ⟨rfl,_,Eq.trans (World.drewN_drewN _ _ _) (congrArg (World.drewN _) (Nat.add_assoc _ _ _))⟩);apply stopA;(case other=>exact trivial)))
               case _=>
                first
                 | clear M33
                   (try go_wp2_with (first|(go_at_call 163;(with_reducible refine (R02_tail.calls _ _ _ _ A206.out).mono ?_);rintro e w' ⟨rfl,⟨nd,rfl⟩⟩;(try first|exact ⟨rfl,_,World.drewN_drewN _ _ _⟩|exact ⟨rfl,_,Eq.trans (World.drewN_drewN _ _ _) (congrArg (World.drewN _) (Nat.add_assoc _ _ _))⟩))));repeat (go_quiet (first|(go_at_call 163;(with_reducible refine (R02_tail.calls _ _ _ _ A204.out).mono ?_);rintro e w' ⟨rfl,⟨nd,rfl⟩⟩;(try first|exact ⟨rfl,_,World.drewN_drewN _ _ _⟩|exact ⟨rfl,_,Eq.trans (World.drewN_drewN _ _ _) (congrArg (World.drewN _) (Nat.add_assoc _ _ _))⟩))|(go_at_call 163;(with_reducible refine (R02_tail.calls a0 2 t483 _ A206.out).mono ?_);rintro e w' ⟨rfl,⟨nd,rfl⟩⟩;(try first|exact ⟨rfl,_,World.drewN_drewN _ _ _⟩|exact ⟨rfl,_,Eq.trans (World.drewN_drewN _ _ _) (congrArg (World.drewN _) (Nat.add_assoc _ _ _))⟩)));try go_wp2_with (first|(go_at_call 163;(with_reducible refine (R02_tail.calls a0 1 true _ A204.out).mono ?_);rintro e w' ⟨rfl,⟨nd,rfl⟩⟩;(try first|exact ⟨rfl,_,World.drewN_drewN _ _ _⟩|exact ⟨rfl,_,Eq.trans (World.drewN_drewN _ _ _) (congrArg (World.drewN _) (Nat.add_assoc _ _ _))⟩))|(go_at_call 163;(with_reducible refine (R02_tail.calls a0 2 t483 _ A206.out).mono ?_);rintro e w' ⟨rfl,⟨nd,rfl⟩⟩;(try first|exact ⟨rfl,_,World.drewN_drewN _ _ _⟩|exact ⟨rfl,_,Eq.trans (World.drewN_drewN _ _ _) (congrArg (World.drewN _) (Nat.add_assoc _ _ _))⟩))))
                   go_meet
                   case rel=>exact ⟨_,(t483),(endS),H',⟨by have:=HJ100.out;first|omega|exact Nat.le_refl _⟩,⟨blkZ⟩,⟨bwA⟩⟩
                 | clear M34
                   (try go_wp2_with (fail))
                   repeat (go_quiet (first|(go_at_call 163;(with_reducible refine (R02_tail.calls _ _ _ _ A204.out).mono ?_);rintro e w' ⟨rfl,⟨nd,rfl⟩⟩;(try first|exact ⟨rfl,_,World.drewN_drewN _ _ _⟩|exact ⟨rfl,_,Eq.trans (World.drewN_drewN _ _ _) (congrArg (World.drewN _) (Nat.add_assoc _ _ _))⟩)));try go_wp2_with (first|(go_at_call 163;(with_reducible refine (R02_tail.calls a0 1 false _ A204.out).mono ?_);rintro e w' ⟨rfl,⟨nd,rfl⟩⟩;(try first|exact ⟨rfl,_,World.drewN_drewN _ _ _⟩|exact ⟨rfl,_,Eq.trans (World.drewN_drewN _ _ _) (congrArg (World.drewN _) (Nat.add_assoc _ _ _))⟩))))
                   go_meet
                   case rel=>exact ⟨_,(false),(endS),H',⟨by have:=HJ100.out;first|omega|exact Nat.le_refl _⟩,⟨blkZ⟩,⟨bwA⟩⟩
             | clear M35
               go_wp2;repeat (go_quiet (fail);try go_wp2)
               go_meet
               case rel=>exact ⟨_,(false),(endS),H',⟨by have:=HJ100.out;first|omega|exact Nat.le_refl _⟩,⟨blkZ⟩,⟨bwA⟩⟩
         case rest=>
          clear HC201;(try clear c1);(try clear p1);(try clear q1);(try clear hx1);(try clear qi1);(try clear c2);(try clear c2b0);(try clear c2b1);(try clear p2);(try clear c3);(try clear c3b0);(try clear c3b1);(try clear p4);(try clear q4);(try clear hx4);(try clear qi4);(try clear c5);(try clear c5b0);(try clear p6);(try clear c10);(try clear p10);(try clear q10);(try clear hx10);(try clear qi10);(try clear c13);(try clear c20);(try clear p64);(try clear c103);(try clear c103b0);(try clear c104);(try clear c104b0);(try clear c104b1);(try clear p105);(try clear q105);(try clear hx105);(try clear qi105);(try clear c131);(try clear hcz102_0);(try clear hcz102_1);(try clear hcz201_0);(try clear hcz201_1);(try clear hfz102_0);(try clear hfz102_1);(try clear hfz201_0);(try clear hfz201_1);(try clear p105);(try clear p2);(try clear p4);(try clear p6);(try clear p64);(try clear q105);(try clear q4);obtain ⟨kq,x48_200,rfl,HA,HJ200,BK480,HB⟩:=hcut
          cases kq with
          | zero=>exact absurd HA.out (by simp [R02_First.j1])
          | succ kj200=>
           have H:=HA.out;clear HA;simp only [R02_First.j1] at H;have HC301:=aM H;clear H
           go_upto_if 48 with (fail)
           (repeat (go_quiet (fail);go_upto_if 48 with (fail)));go_cut [] (fun wc=>∃ (kq:Nat) (x481000_300:Int) (x481001_300:Int),Aside0 (R02_First.j2 kq a0 (wrap64 (bt a0 0))=some (r1,r2))∧Aside0 (kq≤kj200)∧Aside0 (wc.heap[gb480]? = some (.cells #[.int .i64 x481000_300,.int .i64 x481001_300] 184 (0,0)))∧Aside0 (Below w.heap.size w wc))
           case first=>
            have H:=HC301.out;clear HC301;revert H;refine itR ?L41p ?L41n
            case' L41p=>
             intro c302 H;subst c302;replace H:=itN H;obtain ⟨c303,H⟩:=H;have c303b0:=dT c303;have c303b1:decide (1<a0.size)=true:=dT (by omega);clear c303
             (first|rw [c303b0]|(simp only [i64_w,i32_w];rw [c303b0])|skip)
             replace H:=itN H;obtain ⟨c305,H⟩:=H;have c305b0:=dT c305;have c305b1:decide (2<a0.size)=true:=dT (by omega);clear c305;revert H;refine itR ?L42p ?L42n
             case' L42p=>
              intro c307 H;have c307b0:=geT c307;clear c307;revert H;refine itR ?L43p ?L43n
              case' L43p=>
               intro c308 H;have c308b0:=dT c308;clear c308;obtain ⟨rfl,rfl⟩:=sJ2 H;have M39:=trivial
              case' L43n=>
               intro c308 H;have c308b0:=dF c308;clear c308;revert H;refine itR ?L44p ?L44n
               case' L44p=>
                intro c309 H;have c309b0:=gtT c309;clear c309;obtain ⟨rfl,rfl⟩:=sJ2 H;have M39:=trivial
               case' L44n=>
                intro c309 H;have c309b0:=gtF c309;clear c309;have H':=aM H;clear H;have M40:=trivial
             case' L42n=>
              intro c307 H;have c307b0:=geF c307;clear c307;have H':=aM H;clear H;have M40:=trivial
            case' L41n=>
             intro c302 H;replace c302:=Bool.eq_false_iff.mpr c302;subst c302;have H':=aM H;clear H;go_wp2;repeat (go_quiet (fail);try go_wp2)
             go_meet
             case rel=>exact ⟨_,(0),(0),H',⟨by have:=HJ100.out;have:=HJ200.out;first|omega|exact Nat.le_refl _⟩,⟨blkZ⟩,⟨bwA⟩⟩
            all_goals
             case _=>
              have p304:0≤(1:Int):=(by omega);have q304:1<a0.size:=(by have:(1:Int)<(a0.size:Int):=odA;omega);have hx304:∀ h:1<a0.size,((a0[1]'h).toNat:Int)=bt a0 1:=bt_at a0 1;clear p304;have qi304:(1<(a0.size:Int))=True:=eq_true (odA);replace q304:=eq_true q304;have p306:0≤(2:Int):=(by omega);have q306:2<a0.size:=(by have:(2:Int)<(a0.size:Int):=odA;omega);have hx306:∀ h:2<a0.size,((a0[2]'h).toNat:Int)=bt a0 2:=bt_at a0 2;clear p306;have qi306:(2<(a0.size:Int))=True:=eq_true (odA);replace q306:=eq_true q306
              first
               | clear M39
                 obtain ⟨hcz401_0,hcz401_1⟩:=cel2 BK480.out;obtain ⟨hfz401_0,hfz401_1⟩:=frz2 BK480.out;go_wp2;(repeat (go_quiet (fail);try go_wp2));refine bodyPost_ret (results_cell_row rfl _ _ gb480 184 #[.int .i64 (wrap64 ((wrap64 ((wrap64 ((wrap64 (4096 * (wrap64 ((wrap64 (bt a0 0))-224))))+(wrap64 (64 * (wrap64 ((wrap64 (bt a0 1))-128))))))+(wrap64 (bt a0 2))))-128)),.int .i64 3] (0,0) _ rfl blkZ Tryz.underlying184 rfl (by kernel_rfl)) rfl ?_;exact ⟨endA,bwA⟩
               | clear M40
                 go_wp2;repeat (go_quiet (fail);try go_wp2)
                 go_meet
                 case rel=>exact ⟨_,(0),(0),H',⟨by have:=HJ100.out;have:=HJ200.out;first|omega|exact Nat.le_refl _⟩,⟨blkZ⟩,⟨bwA⟩⟩
           case rest=>
            clear HC301;(try clear c1);(try clear p1);(try clear q1);(try clear hx1);(try clear qi1);(try clear c2);(try clear c2b0);(try clear c2b1);(try clear p2);(try clear c3);(try clear c3b0);(try clear c3b1);(try clear p3);(try clear q3);(try clear hx3);(try clear qi3);(try clear p4);(try clear q4);(try clear hx4);(try clear qi4);(try clear c5);(try clear c5b0);(try clear p6);(try clear c10);(try clear p10);(try clear q10);(try clear hx10);(try clear qi10);(try clear c13);(try clear c20);(try clear c30);(try clear p30);(try clear q30);(try clear hx30);(try clear qi30);(try clear p64);(try clear c103);(try clear c103b0);(try clear c104);(try clear c104b0);(try clear c104b1);(try clear p105);(try clear q105);(try clear hx105);(try clear qi105);(try clear c131);(try clear c202);(try clear c202b0);(try clear c203);(try clear c203b0);(try clear c205);(try clear hcz102_0);(try clear hcz102_1);(try clear hcz201_0);(try clear hcz201_1);(try clear hcz401_0);(try clear hcz401_1);(try clear hfz102_0);(try clear hfz102_1);(try clear hfz201_0);(try clear hfz201_1);(try clear hfz401_0);(try clear hfz401_1);(try clear p1);(try clear p10);(try clear p105);(try clear p2);(try clear p304);(try clear p306);(try clear p4);(try clear p6);(try clear p64);(try clear q1);(try clear q10);(try clear q105);(try clear q304);(try clear q306);(try clear q4);obtain ⟨kq,x481000_300,x481001_300,HA,HJ300,BK480,HB⟩:=hcut
            cases kq with
            | zero=>exact absurd HA.out (by simp [R02_First.j2])
            | succ kj300=>
             have H:=HA.out;clear HA;simp only [R02_First.j2] at H;have HC401:=aM H;clear H;go_upto_region 12 with (fail);(repeat (go_quiet (fail);go_upto_region 12 with (fail)));go_cut [92] (fun v92 wc=>∃ (kq:Nat) (x92_400:Bool),v92=.bool x92_400∧Aside0 (R02_First.j3 kq a0 (wrap64 (bt a0 0)) x92_400=some (r1,r2))∧Aside0 (kq≤kj300)∧Aside0 (wc.heap[gb480]? = some (.cells #[.int .i64 x481000_300,.int .i64 x481001_300] 184 (0,0)))∧Aside0 (Below w.heap.size w wc))
             case first=>
              have H:=HC401.out;clear HC401;revert H;refine itR ?L51p ?L51n
              case' L51p=>
               intro c402 H;have c402b0:=geT c402;clear c402
               (first|rw [c402b0]|(simp only [i64_w,i32_w];rw [c402b0])|skip)
               revert H;refine itR ?L52p ?L52n
               case' L52p=>
                intro c403 H;have c403b0:=dT c403;clear c403;replace H:=bnA H;obtain ⟨t484,A404,H⟩:=H;revert H;refine itR ?L53p ?L53n
                case' L53p=>
                 intro c405 H;subst c405;replace H:=bnA H;obtain ⟨t485,A406,H⟩:=H;revert H;refine itR ?L54p ?L54n
                 case' L54p=>
                  intro c407 H;subst c407;replace H:=bnA H;obtain ⟨t486,A408,H⟩:=H;have H':=aM H;clear H;have M45:=trivial;have M46:=trivial;have M47:=trivial
                 case' L54n=>
                  intro c407 H;replace c407:=Bool.eq_false_iff.mpr c407;subst c407;have H':=aM H;clear H;have M45:=trivial;have M46:=trivial;have M48:=trivial
                case' L53n=>
                 intro c405 H;replace c405:=Bool.eq_false_iff.mpr c405;subst c405;have H':=aM H;clear H;have M45:=trivial;have M49:=trivial
               case' L52n=>
                intro c403 H;have c403b0:=dF c403;clear c403;have H':=aM H;clear H;have M50:=trivial
              case' L51n=>
               intro c402 H;have c402b0:=geF c402;clear c402
               (first|rw [c402b0]|(simp only [i64_w,i32_w];rw [c402b0])|skip)
               have H':=aM H;clear H;have M50:=trivial
              all_goals
               case _=>
                first
                 | clear M45
                   go_wp2_with (first|(go_at_call 163;(with_reducible refine (R02_tail.calls _ _ _ _ A404.out).mono ?_);rintro e w' ⟨rfl,⟨nd,rfl⟩⟩;(try first|exact ⟨rfl,_,World.drewN_drewN _ _ _⟩|exact ⟨rfl,_,Eq.trans (World.drewN_drewN _ _ _) (congrArg (World.drewN _) (Nat.add_assoc _ _ _))⟩);apply stopA;(case other=>exact trivial)))
                   case _=>
                    first
                     | clear M46
                       go_wp2_with (first|(go_at_call 163;(with_reducible refine (R02_tail.calls _ _ _ _ A406.out).mono ?_);rintro e w' ⟨rfl,⟨nd,rfl⟩⟩;(try first|exact ⟨rfl,_,World.drewN_drewN _ _ _⟩|exact ⟨rfl,_,Eq.trans (World.drewN_drewN _ _ _) (congrArg (World.drewN _) (Nat.add_assoc _ _ _))⟩);apply stopA;(case other=>exact trivial)))
                       case _=>
                        first
                         | clear M47
                           (try go_wp2_with (first|(go_at_call 163;(with_reducible refine (R02_tail.calls _ _ _ _ A408.out).mono ?_);rintro e w' ⟨rfl,⟨nd,rfl⟩⟩;(try first|exact ⟨rfl,_,World.drewN_drewN _ _ _⟩|exact ⟨rfl,_,Eq.trans (World.drewN_drewN _ _ _) (congrArg (World.drewN _) (Nat.add_assoc _ _ _))⟩))));repeat (go_quiet (first|(go_at_call 163;(with_reducible refine (R02_tail.calls _ _ _ _ A404.out).mono ?_);rintro e w' ⟨rfl,⟨nd,rfl⟩⟩;(try first|exact ⟨rfl,_,World.drewN_drewN _ _ _⟩|exact ⟨rfl,_,Eq.trans (World.drewN_drewN _ _ _) (congrArg (World.drewN _) (Nat.add_assoc _ _ _))⟩))|(go_at_call 163;(with_reducible refine (R02_tail.calls a0 2 true _ A406.out).mono ?_);rintro e w' ⟨rfl,⟨nd,rfl⟩⟩;(try first|exact ⟨rfl,_,World.drewN_drewN _ _ _⟩|exact ⟨rfl,_,Eq.trans (World.drewN_drewN _ _ _) (congrArg (World.drewN _) (Nat.add_assoc _ _ _))⟩))|(go_at_call 163;(with_reducible refine (R02_tail.calls a0 3 t486 _ A408.out).mono ?_);rintro e w' ⟨rfl,⟨nd,rfl⟩⟩;(try first|exact ⟨rfl,_,World.drewN_drewN _ _ _⟩|exact ⟨rfl,_,Eq.trans (World.drewN_drewN _ _ _) (congrArg (World.drewN _) (Nat.add_assoc _ _ _))⟩)));try go_wp2_with (first|(go_at_call 163;(with_reducible refine (R02_tail.calls a0 1 true _ A404.out).mono ?_);rintro e w' ⟨rfl,⟨nd,rfl⟩⟩;(try first|exact ⟨rfl,_,World.drewN_drewN _ _ _⟩|exact ⟨rfl,_,Eq.trans (World.drewN_drewN _ _ _) (congrArg (World.drewN _) (Nat.add_assoc _ _ _))⟩))|(go_at_call 163;(with_reducible refine (R02_tail.calls a0 2 true _ A406.out).mono ?_);rintro e w' ⟨rfl,⟨nd,rfl⟩⟩;(try first|exact ⟨rfl,_,World.drewN_drewN _ _ _⟩|exact ⟨rfl,_,Eq.trans (World.drewN_drewN _ _ _) (congrArg (World.drewN _) (Nat.add_assoc _ _ _))⟩))|(go_at_call 163;(with_reducible refine (R02_tail.calls a0 3 t486 _ A408.out).mono ?_);rintro e w' ⟨rfl,⟨nd,rfl⟩⟩;(try first|exact ⟨rfl,_,World.drewN_drewN _ _ _⟩|exact ⟨rfl,_,Eq.trans (World.drewN_drewN _ _ _) (congrArg (World.drewN _) (Nat.add_assoc _ _ _))⟩))))
                           go_meet
                           case rel=>exact ⟨_,(t486),(endS),H',⟨by have:=HJ100.out;have:=HJ200.out;have:=HJ300.out;first|omega|exact Nat.le_refl _⟩,⟨blkZ⟩,⟨bwA⟩⟩
                         | clear M48
                           (try go_wp2_with (fail))
                           repeat (go_quiet (first|(go_at_call 163;(with_reducible refine (R02_tail.calls _ _ _ _ A404.out).mono ?_);rintro e w' ⟨rfl,⟨nd,rfl⟩⟩;(try first|exact ⟨rfl,_,World.drewN_drewN _ _ _⟩|exact ⟨rfl,_,Eq.trans (World.drewN_drewN _ _ _) (congrArg (World.drewN _) (Nat.add_assoc _ _ _))⟩))|(go_at_call 163;(with_reducible refine (R02_tail.calls a0 2 false _ A406.out).mono ?_);rintro e w' ⟨rfl,⟨nd,rfl⟩⟩;(try first|exact ⟨rfl,_,World.drewN_drewN _ _ _⟩|exact ⟨rfl,_,Eq.trans (World.drewN_drewN _ _ _) (congrArg (World.drewN _) (Nat.add_assoc _ _ _))⟩)));try go_wp2_with (first|(go_at_call 163;(with_reducible refine (R02_tail.calls a0 1 true _ A404.out).mono ?_);rintro e w' ⟨rfl,⟨nd,rfl⟩⟩;(try first|exact ⟨rfl,_,World.drewN_drewN _ _ _⟩|exact ⟨rfl,_,Eq.trans (World.drewN_drewN _ _ _) (congrArg (World.drewN _) (Nat.add_assoc _ _ _))⟩))|(go_at_call 163;(with_reducible refine (R02_tail.calls a0 2 false _ A406.out).mono ?_);rintro e w' ⟨rfl,⟨nd,rfl⟩⟩;(try first|exact ⟨rfl,_,World.drewN_drewN _ _ _⟩|exact ⟨rfl,_,Eq.trans (World.drewN_drewN _ _ _) (congrArg (World.drewN _) (Nat.add_assoc _ _ _))⟩))))
                           go_meet
                           case rel=>exact ⟨_,(false),(endS),H',⟨by have:=HJ100.out;have:=HJ200.out;have:=HJ300.out;first|omega|exact Nat.le_refl _⟩,⟨blkZ⟩,⟨bwA⟩⟩
                     | clear M49
                       (try go_wp2_with (fail))
                       repeat (go_quiet (first|(go_at_call 163;(with_reducible refine (R02_tail.calls _ _ _ _ A404.out).mono ?_);rintro e w' ⟨rfl,⟨nd,rfl⟩⟩;(try first|exact ⟨rfl,_,World.drewN_drewN _ _ _⟩|exact ⟨rfl,_,Eq.trans (World.drewN_drewN _ _ _) (congrArg (World.drewN _) (Nat.add_assoc _ _ _))⟩)));try go_wp2_with (first|(go_at_call 163;(with_reducible refine (R02_tail.calls a0 1 false _ A404.out).mono ?_);rintro e w' ⟨rfl,⟨nd,rfl⟩⟩;(try first|exact ⟨rfl,_,World.drewN_drewN _ _ _⟩|exact ⟨rfl,_,Eq.trans (World.drewN_drewN _ _ _) (congrArg (World.drewN _) (Nat.add_assoc _ _ _))⟩))))
                       go_meet
                       case rel=>exact ⟨_,(false),(endS),H',⟨by have:=HJ100.out;have:=HJ200.out;have:=HJ300.out;first|omega|exact Nat.le_refl _⟩,⟨blkZ⟩,⟨bwA⟩⟩
                 | clear M50
                   go_wp2;repeat (go_quiet (fail);try go_wp2)
                   go_meet
                   case rel=>exact ⟨_,(false),(endS),H',⟨by have:=HJ100.out;have:=HJ200.out;have:=HJ300.out;first|omega|exact Nat.le_refl _⟩,⟨blkZ⟩,⟨bwA⟩⟩
             case rest=>
              clear HC401;(try clear c1);(try clear p1);(try clear q1);(try clear hx1);(try clear qi1);(try clear c2);(try clear c2b0);(try clear c2b1);(try clear p2);(try clear c3);(try clear c3b0);(try clear c3b1);(try clear p3);(try clear q3);(try clear hx3);(try clear qi3);(try clear c4);(try clear p4);(try clear q4);(try clear hx4);(try clear qi4);(try clear c5);(try clear c5b0);(try clear p6);(try clear c10);(try clear p10);(try clear q10);(try clear hx10);(try clear qi10);(try clear c13);(try clear c20);(try clear c30);(try clear p30);(try clear q30);(try clear hx30);(try clear qi30);(try clear c40);(try clear p64);(try clear c103);(try clear c103b0);(try clear c104);(try clear c104b0);(try clear c104b1);(try clear p105);(try clear q105);(try clear hx105);(try clear qi105);(try clear c131);(try clear c202);(try clear c202b0);(try clear c203);(try clear c203b0);(try clear c205);(try clear c302);(try clear c303);(try clear c303b0);(try clear c303b1);(try clear p304);(try clear q304);(try clear hx304);(try clear qi304);(try clear c305);(try clear c305b0);(try clear c305b1);(try clear p306);(try clear q306);(try clear hx306);(try clear qi306);(try clear c307);(try clear c307b0);(try clear c308);(try clear c308b0);(try clear c309);(try clear c309b0);(try clear hcz102_0);(try clear hcz102_1);(try clear hcz201_0);(try clear hcz201_1);(try clear hcz401_0);(try clear hcz401_1);(try clear hfz102_0);(try clear hfz102_1);(try clear hfz201_0);(try clear hfz201_1);(try clear hfz401_0);(try clear hfz401_1);(try clear p1);(try clear p10);(try clear p105);(try clear p2);(try clear p3);(try clear p30);(try clear p304);(try clear p306);(try clear p4);(try clear p6);(try clear p64);(try clear q1);(try clear q10);(try clear q105);(try clear q3);(try clear q30);(try clear q304);(try clear q306);(try clear q4);obtain ⟨kq,x92_400,rfl,HA,HJ400,BK480,HB⟩:=hcut
              cases kq with
              | zero=>exact absurd HA.out (by simp [R02_First.j3])
              | succ kj400=>
               have H:=HA.out;clear HA;simp only [R02_First.j3] at H;revert H;refine itR ?L57p ?L57n
               case' L57p=>
                intro c402 H;subst c402;replace H:=itN H;obtain ⟨c403,H⟩:=H;have c403b0:=dT c403;have c403b1:decide (1<a0.size)=true:=dT (by omega);clear c403;replace H:=itN H;obtain ⟨c405,H⟩:=H;have c405b0:=dT c405;have c405b1:decide (2<a0.size)=true:=dT (by omega);clear c405;replace H:=itN H;obtain ⟨c407,H⟩:=H;have c407b0:=dT c407;have c407b1:decide (3<a0.size)=true:=dT (by omega);clear c407;revert H;refine itR ?L58p ?L58n
                case' L58p=>
                 intro c409 H;have c409b0:=geT c409;clear c409;revert H;refine itR ?L59p ?L59n
                 case' L59p=>
                  intro c410 H;have c410b0:=dT c410;clear c410;obtain ⟨rfl,rfl⟩:=sJ2 H;have M55:=trivial
                 case' L59n=>
                  intro c410 H;have c410b0:=dF c410;clear c410;obtain ⟨rfl,rfl⟩:=sJ2 H;have M56:=trivial
                case' L58n=>
                 intro c409 H;have c409b0:=geF c409;clear c409;obtain ⟨rfl,rfl⟩:=sJ2 H;have M56:=trivial
               case' L57n=>
                intro c402 H;replace c402:=Bool.eq_false_iff.mpr c402;subst c402;obtain ⟨rfl,rfl⟩:=sJ2 H;obtain ⟨hcz501_0,hcz501_1⟩:=cel2 BK480.out;obtain ⟨hfz501_0,hfz501_1⟩:=frz2 BK480.out;go_wp2;(repeat (go_quiet (fail);try go_wp2));refine bodyPost_ret (results_cell_row rfl _ _ gb480 184 #[.int .i64 0,.int .i64 0] (0,0) _ rfl blkZ Tryz.underlying184 rfl (by kernel_rfl)) rfl ?_;exact ⟨endA,bwA⟩
               all_goals
                case _=>
                 have p404:0≤(1:Int):=(by omega);have q404:1<a0.size:=(by have:(1:Int)<(a0.size:Int):=odA;omega);have hx404:∀ h:1<a0.size,((a0[1]'h).toNat:Int)=bt a0 1:=bt_at a0 1;clear p404;have qi404:(1<(a0.size:Int))=True:=eq_true (odA);replace q404:=eq_true q404;have p406:0≤(2:Int):=(by omega);have q406:2<a0.size:=(by have:(2:Int)<(a0.size:Int):=odA;omega);have hx406:∀ h:2<a0.size,((a0[2]'h).toNat:Int)=bt a0 2:=bt_at a0 2;clear p406;have qi406:(2<(a0.size:Int))=True:=eq_true (odA);replace q406:=eq_true q406;have p408:0≤(3:Int):=(by omega);have q408:3<a0.size:=(by have:(3:Int)<(a0.size:Int):=odA;omega);have hx408:∀ h:3<a0.size,((a0[3]'h).toNat:Int)=bt a0 3:=bt_at a0 3;clear p408;have qi408:(3<(a0.size:Int))=True:=eq_true (odA);replace q408:=eq_true q408;obtain ⟨hcz501_0,hcz501_1⟩:=cel2 BK480.out;obtain ⟨hfz501_0,hfz501_1⟩:=frz2 BK480.out;go_wp2;repeat (go_quiet (fail);try go_wp2)
                 first
                  | clear M55
                    refine bodyPost_ret (results_cell_row rfl _ _ gb480 184 #[.int .i64 (wrap64 ((wrap64 ((wrap64 ((wrap64 ((wrap64 (262144 * (wrap64 ((wrap64 (bt a0 0))-240))))+(wrap64 (4096 * (wrap64 ((wrap64 (bt a0 1))-128))))))+(wrap64 (64 * (wrap64 ((wrap64 (bt a0 2))-128))))))+(wrap64 (bt a0 3))))-128)),.int .i64 4] (0,0) _ rfl blkZ Tryz.underlying184 rfl (by kernel_rfl)) rfl ?_;exact ⟨endA,bwA⟩
                  | clear M56
                    refine bodyPost_ret (results_cell_row rfl _ _ gb480 184 #[.int .i64 0,.int .i64 0] (0,0) _ rfl blkZ Tryz.underlying184 rfl (by kernel_rfl)) rfl ?_;exact ⟨endA,bwA⟩
def R02_Valid.l0:Nat→ByteArray→Int→Option (Bool)
 | 0,_,_=>none
 | k+1,x0,x3=>if x3<(x0.size:Int) then (if 0≤x3 then (if x3≤(x0.size:Int) then ((R02_First.f k (x0.extract (x3:Int).toNat x0.size)).bind fun bt487=>(if bt487.2=0 then (some false) else (R02_Valid.l0 k x0 (wrap64 (x3+bt487.2))))) else (none)) else (none)) else (some true)
def R02_Valid.f (k:Nat) (a0:ByteArray):Option (Bool):=R02_Valid.l0 k a0 0
theorem R02_Valid.calls (k:Nat) (a0:ByteArray) (r:Bool) (w:World) (h:R02_Valid.f k a0=some r):
  Calls Tryz.prog 89 #[.string a0] w fun e w'=>e=.returned (.bool r)∧Below w.heap.size w w':=by
 have hu184:=Tryz.underlying184;have HB:=aM (Below.refl w.heap.size w);unfold R02_Valid.f at h;have H:=h;clear h;have H':=aM H;clear H;go_enter Tryz.func89,Tryz.ntmps89;go_wp2
 go_loopg [3] k (fun kq v3 w'=>∃ (x3_1:Int),v3=.int .i64 x3_1∧Aside0 (R02_Valid.l0 kq a0 x3_1=some r)∧Aside0 (kq≤k)∧Aside0 (Below w.heap.size w w'))
 case atStart=>exact ⟨(0),(endS),H',⟨Nat.le_refl _⟩,⟨bwA⟩⟩
 case round=>
  clear H';(try clear p2);(try clear c8);(try clear c89);obtain ⟨x3_1,rfl,HA,HK1,HB⟩:=hrel
  cases gk with
  | zero=>exact absurd HA.out (by simp [R02_Valid.l0])
  | succ k1=>
   have H:=HA.out;clear HA;simp only [R02_Valid.l0] at H;revert H;refine itR ?L3p ?L3n
   case' L3p=>
    intro c101 H;have c101b0:=dT c101;clear c101;replace H:=itN H;obtain ⟨c102,H⟩:=H;have c102b0:=eq_true c102;have c102b1:=dT c102;clear c102;replace H:=itN H;obtain ⟨c103,H⟩:=H;have c103b0:=eq_true c103;have c103b1:=dT c103;clear c103;replace H:=bnA H;obtain ⟨⟨t487,t488⟩,A104,H⟩:=H;dsimp only at H;revert H;refine itQ ?L4p ?L4n
    case' L4p=>
     rintro ⟨c105b0,c105b1⟩ H;obtain rfl:=sI H;have M1:=trivial
    case' L4n=>
     rintro ⟨c105b0,c105b1⟩ c105 H;have H':=aM H;clear H;have M2:=trivial
   case' L3n=>
    intro c101 H;have c101b0:=dF c101;clear c101;obtain rfl:=sI H;go_wp2;go_ret;exact ⟨endA,bwA⟩
   all_goals
    case _=>
     try go_wp2_with (first|((with_reducible refine gate_callee (f:=131) rfl ?_);refine goesA (some 12) Tryz.func131 #[.string (a0.extract (x3_1:Int).toNat a0.size)] ?_;(with_reducible refine (R02_First.calls _ _ _ _ _ A104.out).mono ?_);rintro e w201 ⟨rfl,hb⟩;refine ⟨_,rfl,?_⟩;replace HB:=aM (below_step (bwA) hb);(try clear hb))|((with_reducible refine gate_dst (N:=4) rfl ?_);refine boxB 4 #[.int .i64 0,.int .i64 0] 184 HB ?_;clear HB;intro gb489 w202 BK489 GW489 GE489 HB;obtain ⟨hcz203_0,hcz203_1⟩:=cel2 BK489.out;obtain ⟨hfz203_0,hfz203_1⟩:=frz2 BK489.out))
     first
      | clear M1
        go_ret;exact ⟨endA,bwA⟩
      | clear M2
        go_roundg k1
        case measure=>have:=HK1.out;omega
        case rel=>exact ⟨(wrap64 (x3_1+t488)),(endS),H',⟨by have:=HK1.out;omega⟩,⟨bwA⟩⟩
def R02_Runes.l0:Nat→ByteArray→List Int→Int→Option (List Int)
 | 0,_,_,_=>none
 | k+1,x0,x3,x4=>if x4<(x0.size:Int) then (if 0≤x4 then (if x4≤(x0.size:Int) then ((R02_First.f k (x0.extract (x4:Int).toNat x0.size)).bind fun bt490=>(if bt490.2=0 then (some x3) else (if x3.length<17592186044416 then (R02_Runes.l0 k x0 (x3++[bt490.1]) (wrap64 (x4+bt490.2))) else (none)))) else (none)) else (none)) else (some x3)
def R02_Runes.f (k:Nat) (a0:ByteArray):Option (List Int):=R02_Runes.l0 k a0 ([]:List Int) 0
theorem R02_Runes.mono_l:∀ k,(∀ y0 y1 y2,LeO (R02_Runes.l0 k y0 y1 y2) (R02_Runes.l0 (k+1) y0 y1 y2))
 | 0=>fun _ _ _ r h=>by simp [R02_Runes.l0] at h
 | k+1=>by
  have ih0:=R02_Runes.mono_l k
  ·intro y0 y1 y2
   unfold R02_Runes.l0
   repeat' (with_reducible first|exact ih0 _ _ _|exact R02_First.mono _ _|exact LeO.refl _|exact LeO.none _|refine LeO.ite ?_ ?_|refine LeO.bind ?_ (fun _=>?_))
theorem R02_Runes.mono:∀ a0 k,LeO (R02_Runes.f k a0) (R02_Runes.f (k+1) a0):=by
 intro a0 k;have ih0:=R02_Runes.mono_l k;unfold R02_Runes.f
 repeat' (with_reducible first|exact ih0 _ _ _|exact R02_First.mono _ _|exact LeO.refl _|exact LeO.none _|refine LeO.ite ?_ ?_|refine LeO.bind ?_ (fun _=>?_))
theorem R02_Runes.calls (k:Nat) (a0:ByteArray) (r:List Int) (w:World) (h:R02_Runes.f k a0=some r):
  Calls Tryz.prog 90 #[.string a0] w fun e w'=>∃ v0_:Value,e=.returned (v0_)∧Kd.R (Kd.int .i64) 3 w' w.heap.size (fun _=>True) v0_ r∧Below w.heap.size w w':=by
 have hu184:=Tryz.underlying184;have HB:=aM (Below.refl w.heap.size w);unfold R02_Runes.f at h;have H:=h;clear h;have H':=aM H;clear H;go_enter Tryz.func90,Tryz.ntmps90;go_wp2
 go_loopg [3,4] k (fun kq v3 v4 w'=>∃ (x3_1:List Int) (x4_1:Int),v4=.int .i64 x4_1∧Aside0 (R02_Runes.l0 kq a0 x3_1 x4_1=some r)∧Aside0 (kq≤k)∧Aside0 (Kd.R (Kd.int .i64) 3 w' w.heap.size (fun _=>True) v3 x3_1)∧Aside0 (Below w.heap.size w w'))
 case atStart=>exact ⟨(([]:List Int)),(0),(endS),H',⟨Nat.le_refl _⟩,⟨by first|exact Kd.R_nil _ _ _ _ _|exact Kd.N_nil _ _ _ _ _|exact Kd.V_nil _ _ _ _ _|exact Kd.Q_nil _ _ _ _ _|exact Kd.S_nil _ _ _ _ _⟩,⟨bwA⟩⟩
 case round=>
  clear H';(try clear p2);(try clear c9);(try clear c90);obtain ⟨x3_1,x4_1,rfl,HA,HK1,HO_3,HB⟩:=hrel
  cases gk with
  | zero=>exact absurd HA.out (by simp [R02_Runes.l0])
  | succ k1=>
   have H:=HA.out;clear HA;simp only [R02_Runes.l0] at H;revert H;refine itR ?L3p ?L3n
   case' L3p=>
    intro c101 H;have c101b0:=dT c101;clear c101;replace H:=itN H;obtain ⟨c102,H⟩:=H;have c102b0:=eq_true c102;have c102b1:=dT c102;clear c102;replace H:=itN H;obtain ⟨c103,H⟩:=H;have c103b0:=eq_true c103;have c103b1:=dT c103;clear c103;replace H:=bnA H;obtain ⟨⟨t490,t491⟩,A104,H⟩:=H;dsimp only at H;revert H;refine itQ ?L4p ?L4n
    case' L4p=>
     rintro ⟨c105b0,c105b1⟩ H;obtain rfl:=sI H;have M1:=trivial
    case' L4n=>
     rintro ⟨c105b0,c105b1⟩ c105 H;replace H:=itN H;obtain ⟨c106,H⟩:=H;have LMc106:=aM c106;clear c106
     first|((with_reducible replace H:=bsG H);obtain ⟨y493,Ny493,H⟩:=H)|(obtain ⟨y493,hy493⟩:∃ y_:List Int,y_=(x3_1++[t490]):=⟨_,rfl⟩;rw [← hy493] at H;have Ny493:=aM hy493;clear hy493)
     have H':=aM H;clear H;have M2:=trivial
   case' L3n=>
    intro c101 H;have c101b0:=dF c101;clear c101;obtain rfl:=sI H;go_wp2;go_ret;exact ⟨_,endA,raA HO_3.out,bwA⟩
   all_goals
    case _=>
     go_wp2_with (first|((with_reducible refine gate_callee (f:=131) rfl ?_);refine goesA (some 13) Tryz.func131 #[.string (a0.extract (x4_1:Int).toNat a0.size)] ?_;(with_reducible refine (R02_First.calls _ _ _ _ _ A104.out).mono ?_);rintro e w201 ⟨rfl,hb⟩;refine ⟨_,rfl,?_⟩;replace HO_3:=aM (Kd.R_below (raA HO_3.out) hb);replace HB:=aM (below_step (bwA) hb);(try clear hb))|((with_reducible refine gate_dst (N:=5) rfl ?_);refine boxA 5 #[.int .i64 0,.int .i64 0] 184 ?_;intro gb492 hg w202 hbox hb;have BK492:=aM (hbox);have GW492:=aM (hgW hg:w.heap.size≤gb492);have GE492:=aM (hgW hg:w.heap.size≤gb492);replace HO_3:=aM (Kd.R_below (raA HO_3.out) hb);replace HB:=aM (below_step (bwA) hb);clear hb hbox hg;obtain ⟨hcz203_0,hcz203_1⟩:=cel2 BK492.out;obtain ⟨hfz203_0,hfz203_1⟩:=frz2 BK492.out;apply stopA;(case other=>exact trivial)))
     case _=>
      first
       | clear M1
         (try go_wp2_with (fail))
         go_ret;exact ⟨_,endA,raA (Kd.R_mono (Kd.R_far (p:=⟨gb492,1,none⟩) (Kd.R_far (p:=⟨gb492,0,none⟩) (Kd.R_types HO_3.out BK492.out (by decide)) (fun _ hk=>hk.2) (.int .i64 t490)) (fun _ hk=>hk.2) (.int .i64 t491)) (fun _ hk=>trivial)),bwA⟩
       | clear M2
         try go_wp2_with (first|((with_reducible refine gate_builtin (b:=.append) (xs:=#[.tmp 18,.tmp 21]) rfl ?_);at_builtin;refine Kd.R_append (Kd.int .i64) (w0:=w) w.heap.size rfl (.tmp 18) (.tmp 21) 120 3 (.int .i64 0) 8 rfl Tryz.underlying120 info3 rfl (by decide) (by omega) u3 x3_1 t490 [.int .i64 t490] (fun _=>True) (fun _=>False) rfl (by first|(go_simp;done)|(go_simp;rfl)) ?aP (fun _ hk=>hk.elim) ?aF ?aO ?aB ?aS ?aL ?_;(case aP=>exact rfl);(case aB=>exact (bwA));(case aF=>exact (fun _ _=>trivial));(case aO=>exact (raA (Kd.R_mono (Kd.R_far (p:=⟨gb492,1,none⟩) (Kd.R_far (p:=⟨gb492,0,none⟩) (Kd.R_types HO_3.out BK492.out (by decide)) (fun _ hk=>hk.2) (.int .i64 t490)) (fun _ hk=>hk.2) (.int .i64 t491)) (fun _ hk=>trivial))));(case aS=>exact (below_size (bwA)));(case aL=>have:=LMc106.out;omega);intro v494 w204 ho hb hg hat;rw [← Ny493.out] at ho;have n0_:=aM (blk_grown (g:=gb492) (o:=.cells #[.int .i64 t490,.int .i64 t491] 184 (0,0)) blkZ hg (Kd.R_ne HO_3.out BK492.out (by decide)));have n1_:=aM (hb);have n2_:=aM (ho);clear BK492;clear HB;clear HO_3;have BK492:=n0_;have HB:=n1_;have HO495:=n2_;clear n0_ n1_ n2_;clear ho hb hg hat;obtain ⟨hcz205_0,hcz205_1⟩:=cel2 BK492.out;obtain ⟨hfz205_0,hfz205_1⟩:=frz2 BK492.out))
         go_roundg k1
         case measure=>have:=HK1.out;omega
         case rel=>exact ⟨(y493),(wrap64 (x4_1+t491)),(endS),H',⟨by have:=HK1.out;omega⟩,⟨raA HO495.out⟩,⟨bwA⟩⟩
def R02_Bytes.f (a0:Int):Option (ByteArray):=if a0<128 then (some (strOfNums (([(a0) % 256]:List Int)))) else (if a0<2048 then (some (strOfNums (([(wrap64 (192+(wrap64 (Int.tdiv a0 64)))) % 256,(wrap64 (128+(Int.tmod a0 64))) % 256]:List Int)))) else (if a0<65536 then (some (strOfNums (([(wrap64 (224+(wrap64 (Int.tdiv a0 4096)))) % 256,(wrap64 (128+(Int.tmod (wrap64 (Int.tdiv a0 64)) 64))) % 256,(wrap64 (128+(Int.tmod a0 64))) % 256]:List Int)))) else (some (strOfNums (([(wrap64 (240+(wrap64 (Int.tdiv a0 262144)))) % 256,(wrap64 (128+(Int.tmod (wrap64 (Int.tdiv a0 4096)) 64))) % 256,(wrap64 (128+(Int.tmod (wrap64 (Int.tdiv a0 64)) 64))) % 256,(wrap64 (128+(Int.tmod a0 64))) % 256]:List Int))))))
theorem R02_Bytes.calls (a0:Int) (r:ByteArray) (w:World) (h:R02_Bytes.f a0=some r):
  Calls Tryz.prog 153 #[.int .i64 a0] w fun e w'=>e=.returned (.string r)∧Below w.heap.size w w':=by
 have HB:=aM (Below.refl w.heap.size w);unfold R02_Bytes.f at h;have H:=h;clear h;revert H;refine itR ?L5p ?L5n
 case' L5p=>
  intro c2 H;have c2b0:=dT c2;clear c2
  first|((with_reducible replace H:=bsG H);obtain ⟨y496,Ny496,H⟩:=H)|(obtain ⟨y496,hy496⟩:∃ y_:List Int,y_=(([(a0) % 256]:List Int)):=⟨_,rfl⟩;rw [← hy496] at H;have Ny496:=aM hy496;clear hy496)
  obtain rfl:=sI H;have M1:=trivial
 case' L5n=>
  intro c2 H;have c2b0:=dF c2;clear c2;revert H;refine itR ?L6p ?L6n
  case' L6p=>
   intro c3 H;have c3b0:=dT c3;clear c3
   first|((with_reducible replace H:=bsG H);obtain ⟨y499,Ny499,H⟩:=H)|(obtain ⟨y499,hy499⟩:∃ y_:List Int,y_=(([(wrap64 (192+(wrap64 (Int.tdiv a0 64)))) % 256,(wrap64 (128+(Int.tmod a0 64))) % 256]:List Int)):=⟨_,rfl⟩;rw [← hy499] at H;have Ny499:=aM hy499;clear hy499)
   obtain rfl:=sI H;have M2:=trivial
  case' L6n=>
   intro c3 H;have c3b0:=dF c3;clear c3;revert H;refine itR ?L7p ?L7n
   case' L7p=>
    intro c4 H;have c4b0:=dT c4;clear c4
    first|((with_reducible replace H:=bsG H);obtain ⟨y502,Ny502,H⟩:=H)|(obtain ⟨y502,hy502⟩:∃ y_:List Int,y_=(([(wrap64 (224+(wrap64 (Int.tdiv a0 4096)))) % 256,(wrap64 (128+(Int.tmod (wrap64 (Int.tdiv a0 64)) 64))) % 256,(wrap64 (128+(Int.tmod a0 64))) % 256]:List Int)):=⟨_,rfl⟩;rw [← hy502] at H;have Ny502:=aM hy502;clear hy502)
    obtain rfl:=sI H;have M3:=trivial
   case' L7n=>
    intro c4 H;have c4b0:=dF c4;clear c4
    first|((with_reducible replace H:=bsG H);obtain ⟨y505,Ny505,H⟩:=H)|(obtain ⟨y505,hy505⟩:∃ y_:List Int,y_=(([(wrap64 (240+(wrap64 (Int.tdiv a0 262144)))) % 256,(wrap64 (128+(Int.tmod (wrap64 (Int.tdiv a0 4096)) 64))) % 256,(wrap64 (128+(Int.tmod (wrap64 (Int.tdiv a0 64)) 64))) % 256,(wrap64 (128+(Int.tmod a0 64))) % 256]:List Int)):=⟨_,rfl⟩;rw [← hy505] at H;have Ny505:=aM hy505;clear hy505)
    obtain rfl:=sI H;have M4:=trivial
 all_goals
  case _=>
   go_enter Tryz.func153,Tryz.ntmps153
   first
    | clear M1
      (try go_wp2_with (first|((with_reducible refine gate_dst (N:=7) rfl ?_);refine Kd.R_lit (Kd.int .u8) _ 5 ?hg (N:=7) ?hd (xs:=([(a0) % 256]:List Int)) (inner:=[.int .u8 ((a0) % 256)]) (ok:=fun _=>True) (okp:=fun _=>True) ?hr ?hp (fun _ hk=>hk) trivial (Below.refl _ _) (Nat.le_refl _) (by simp) ?_;(case hd=>rfl);(case hg=>rfl);(case hr=>first|(go_simp;done)|(go_simp;rfl));(case hp=>exact (Reps.one (show Kd.M (Kd.int .u8) _ _ _ ((a0) % 256) [.int .u8 ((a0) % 256)] from rfl) (Reps.none _ _)));intro v497 w101 ho102 hb hg_ hnew_;clear hg_ hnew_;(first|rw [← Ny496.out] at ho102|(simp only [Int.reduceToNat] at ho102;rw [← Ny496.out] at ho102));have HO498:=aM (Kd.R_lower ho102 (below_size (bwA)));replace HB:=aM (below_step (bwA) hb);clear hb ho102;have hcv103:=own_string (P:=Tryz.prog) Tryz.underlying134 Tryz.underlying5 Tryz.underlying9 (Kd.own_of_R HO498.out))));go_ret;exact ⟨endA,bwA⟩
    | clear M2
      (try go_wp2_with (first|((with_reducible refine gate_dst (N:=19) rfl ?_);refine Kd.R_lit (Kd.int .u8) _ 5 ?hg (N:=19) ?hd (xs:=([(wrap64 (192+(wrap64 (Int.tdiv a0 64)))) % 256,(wrap64 (128+(Int.tmod a0 64))) % 256]:List Int)) (inner:=[.int .u8 ((wrap64 (192+(wrap64 (Int.tdiv a0 64)))) % 256),.int .u8 ((wrap64 (128+(Int.tmod a0 64))) % 256)]) (ok:=fun _=>True) (okp:=fun _=>True) ?hr ?hp (fun _ hk=>hk) trivial (Below.refl _ _) (Nat.le_refl _) (by simp) ?_;(case hd=>rfl);(case hg=>rfl);(case hr=>first|(go_simp;done)|(go_simp;rfl));(case hp=>exact (Reps.one (show Kd.M (Kd.int .u8) _ _ _ ((wrap64 (192+(wrap64 (Int.tdiv a0 64)))) % 256) [.int .u8 ((wrap64 (192+(wrap64 (Int.tdiv a0 64)))) % 256)] from rfl) (Reps.one (show Kd.M (Kd.int .u8) _ _ _ ((wrap64 (128+(Int.tmod a0 64))) % 256) [.int .u8 ((wrap64 (128+(Int.tmod a0 64))) % 256)] from rfl) (Reps.none _ _))));intro v500 w101 ho102 hb hg_ hnew_;clear hg_ hnew_;(first|rw [← Ny499.out] at ho102|(simp only [Int.reduceToNat] at ho102;rw [← Ny499.out] at ho102));have HO501:=aM (Kd.R_lower ho102 (below_size (bwA)));replace HB:=aM (below_step (bwA) hb);clear hb ho102;have hcv103:=own_string (P:=Tryz.prog) Tryz.underlying134 Tryz.underlying5 Tryz.underlying9 (Kd.own_of_R HO501.out))));go_ret;exact ⟨endA,bwA⟩
    | clear M3
      (try go_wp2_with (first|((with_reducible refine gate_dst (N:=36) rfl ?_);refine Kd.R_lit (Kd.int .u8) _ 5 ?hg (N:=36) ?hd (xs:=([(wrap64 (224+(wrap64 (Int.tdiv a0 4096)))) % 256,(wrap64 (128+(Int.tmod (wrap64 (Int.tdiv a0 64)) 64))) % 256,(wrap64 (128+(Int.tmod a0 64))) % 256]:List Int)) (inner:=[.int .u8 ((wrap64 (224+(wrap64 (Int.tdiv a0 4096)))) % 256),.int .u8 ((wrap64 (128+(Int.tmod (wrap64 (Int.tdiv a0 64)) 64))) % 256),.int .u8 ((wrap64 (128+(Int.tmod a0 64))) % 256)]) (ok:=fun _=>True) (okp:=fun _=>True) ?hr ?hp (fun _ hk=>hk) trivial (Below.refl _ _) (Nat.le_refl _) (by simp) ?_;(case hd=>rfl);(case hg=>rfl);(case hr=>first|(go_simp;done)|(go_simp;rfl));(case hp=>exact (Reps.one (show Kd.M (Kd.int .u8) _ _ _ ((wrap64 (224+(wrap64 (Int.tdiv a0 4096)))) % 256) [.int .u8 ((wrap64 (224+(wrap64 (Int.tdiv a0 4096)))) % 256)] from rfl) (Reps.one (show Kd.M (Kd.int .u8) _ _ _ ((wrap64 (128+(Int.tmod (wrap64 (Int.tdiv a0 64)) 64))) % 256) [.int .u8 ((wrap64 (128+(Int.tmod (wrap64 (Int.tdiv a0 64)) 64))) % 256)] from rfl) (Reps.one (show Kd.M (Kd.int .u8) _ _ _ ((wrap64 (128+(Int.tmod a0 64))) % 256) [.int .u8 ((wrap64 (128+(Int.tmod a0 64))) % 256)] from rfl) (Reps.none _ _)))));intro v503 w101 ho102 hb hg_ hnew_;clear hg_ hnew_;(first|rw [← Ny502.out] at ho102|(simp only [Int.reduceToNat] at ho102;rw [← Ny502.out] at ho102));have HO504:=aM (Kd.R_lower ho102 (below_size (bwA)));replace HB:=aM (below_step (bwA) hb);clear hb ho102;have hcv103:=own_string (P:=Tryz.prog) Tryz.underlying134 Tryz.underlying5 Tryz.underlying9 (Kd.own_of_R HO504.out))));go_ret;exact ⟨endA,bwA⟩
    | clear M4
      (try go_wp2_with (first|((with_reducible refine gate_dst (N:=56) rfl ?_);refine Kd.R_lit (Kd.int .u8) _ 5 ?hg (N:=56) ?hd (xs:=([(wrap64 (240+(wrap64 (Int.tdiv a0 262144)))) % 256,(wrap64 (128+(Int.tmod (wrap64 (Int.tdiv a0 4096)) 64))) % 256,(wrap64 (128+(Int.tmod (wrap64 (Int.tdiv a0 64)) 64))) % 256,(wrap64 (128+(Int.tmod a0 64))) % 256]:List Int)) (inner:=[.int .u8 ((wrap64 (240+(wrap64 (Int.tdiv a0 262144)))) % 256),.int .u8 ((wrap64 (128+(Int.tmod (wrap64 (Int.tdiv a0 4096)) 64))) % 256),.int .u8 ((wrap64 (128+(Int.tmod (wrap64 (Int.tdiv a0 64)) 64))) % 256),.int .u8 ((wrap64 (128+(Int.tmod a0 64))) % 256)]) (ok:=fun _=>True) (okp:=fun _=>True) ?hr ?hp (fun _ hk=>hk) trivial (Below.refl _ _) (Nat.le_refl _) (by simp) ?_;(case hd=>rfl);(case hg=>rfl);(case hr=>first|(go_simp;done)|(go_simp;rfl));(case hp=>exact (Reps.one (show Kd.M (Kd.int .u8) _ _ _ ((wrap64 (240+(wrap64 (Int.tdiv a0 262144)))) % 256) [.int .u8 ((wrap64 (240+(wrap64 (Int.tdiv a0 262144)))) % 256)] from rfl) (Reps.one (show Kd.M (Kd.int .u8) _ _ _ ((wrap64 (128+(Int.tmod (wrap64 (Int.tdiv a0 4096)) 64))) % 256) [.int .u8 ((wrap64 (128+(Int.tmod (wrap64 (Int.tdiv a0 4096)) 64))) % 256)] from rfl) (Reps.one (show Kd.M (Kd.int .u8) _ _ _ ((wrap64 (128+(Int.tmod (wrap64 (Int.tdiv a0 64)) 64))) % 256) [.int .u8 ((wrap64 (128+(Int.tmod (wrap64 (Int.tdiv a0 64)) 64))) % 256)] from rfl) (Reps.one (show Kd.M (Kd.int .u8) _ _ _ ((wrap64 (128+(Int.tmod a0 64))) % 256) [.int .u8 ((wrap64 (128+(Int.tmod a0 64))) % 256)] from rfl) (Reps.none _ _))))));intro v506 w101 ho102 hb hg_ hnew_;clear hg_ hnew_;(first|rw [← Ny505.out] at ho102|(simp only [Int.reduceToNat] at ho102;rw [← Ny505.out] at ho102));have HO507:=aM (Kd.R_lower ho102 (below_size (bwA)));replace HB:=aM (below_step (bwA) hb);clear hb ho102;have hcv103:=own_string (P:=Tryz.prog) Tryz.underlying134 Tryz.underlying5 Tryz.underlying9 (Kd.own_of_R HO507.out))));go_ret;exact ⟨endA,bwA⟩
end Go.Proofs.YtpjjbaclphoilaaGreatDoor.A
