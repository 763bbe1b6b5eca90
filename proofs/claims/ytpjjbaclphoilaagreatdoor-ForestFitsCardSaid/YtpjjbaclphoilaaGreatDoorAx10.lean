import Derived.Test.YtpjjbaclphoilaaGreatDoorAx0
import Derived.Test.YtpjjbaclphoilaaGreatDoorAx5
import Derived.Test.YtpjjbaclphoilaaGreatDoorAx8
import Derived.Test.YtpjjbaclphoilaaGreatDoorAx9
namespace Go.Proofs.YtpjjbaclphoilaaGreatDoor.A
open Go.RowKit Go.Proofs.YtpjjbaclphoilaaGreatDoorW.PrintWords Go.Proofs.YtpjjbaclphoilaaGreatDoorW.PrintLast Go.Proofs.YtpjjbaclphoilaaGreatDoorW.PrintMore
attribute [local go_sem] max2_int min2_int max_two min_two max_three min_three max_four min_four   -- for this text's walks alone
set_option linter.unusedVariables false
set_option linter.unusedSimpArgs false
set_option maxHeartbeats 8000000
set_option maxRecDepth 100000
def forest_fits.f (k:Nat) (a0_0:ByteArray) (a0_1:ByteArray) (l0_2:List (S86)) (l0_3:List (S86)) (l0_4:List ByteArray) (a0_5:Int) (a0_6:Int) (a0_7:Int) (a1_0:ByteArray) (a1_1:ByteArray) (l1_2:List (S86)) (l1_3:List (S86)) (l1_4:List ByteArray) (a1_5:Int) (a1_6:Int) (a1_7:Int):Option (Bool):=if 1≤(l0_4.length:Int) then ((name_Alike.f (l0_4.drop 1) l1_4).bind fun t228=>(if t228=true then ((schema_Merge.f k l1_3 l0_2).bind fun bt229=>(if bt229.2=0 then ((api_Field_64.f k bt229.1 l0_3).bind fun t233=>(some t233)) else (some false))) else (some false))) else (none)
theorem forest_fits.calls (k:Nat) (a0_0:ByteArray) (a0_1:ByteArray) (A0_2:Option Addr) (c0_2:Nat) (l0_2:List (S86)) (A0_3:Option Addr) (c0_3:Nat) (l0_3:List (S86)) (A0_4:Option Addr) (c0_4:Nat) (l0_4:List ByteArray) (a0_5:Int) (a0_6:Int) (a0_7:Int) (a1_0:ByteArray) (a1_1:ByteArray) (A1_2:Option Addr) (c1_2:Nat) (l1_2:List (S86)) (A1_3:Option Addr) (c1_3:Nat) (l1_3:List (S86)) (A1_4:Option Addr) (c1_4:Nat) (l1_4:List ByteArray) (a1_5:Int) (a1_6:Int) (a1_7:Int) (r:Bool) (w:World) (hr0_2:Kd.C k86 w A0_2 l0_2.length l0_2) (hc0_2:l0_2.length≤c0_2) (hr0_3:Kd.C k86 w A0_3 l0_3.length l0_3) (hc0_3:l0_3.length≤c0_3) (hr0_4:Kd.C Kd.string w A0_4 l0_4.length l0_4) (hc0_4:l0_4.length≤c0_4) (hr1_2:Kd.C k86 w A1_2 l1_2.length l1_2) (hc1_2:l1_2.length≤c1_2) (hr1_3:Kd.C k86 w A1_3 l1_3.length l1_3) (hc1_3:l1_3.length≤c1_3) (hr1_4:Kd.C Kd.string w A1_4 l1_4.length l1_4) (hc1_4:l1_4.length≤c1_4) (hT:Tabs w) (h:forest_fits.f k a0_0 a0_1 l0_2 l0_3 l0_4 a0_5 a0_6 a0_7 a1_0 a1_1 l1_2 l1_3 l1_4 a1_5 a1_6 a1_7=some r):
  Calls Tryz.prog 61 #[.agg #[.string a0_0,.string a0_1,.slice A0_2 l0_2.length c0_2,.slice A0_3 l0_3.length c0_3,.slice A0_4 l0_4.length c0_4,.int .i64 a0_5,.int .i64 a0_6,.int .i64 a0_7],.agg #[.string a1_0,.string a1_1,.slice A1_2 l1_2.length c1_2,.slice A1_3 l1_3.length c1_3,.slice A1_4 l1_4.length c1_4,.int .i64 a1_5,.int .i64 a1_6,.int .i64 a1_7]] w fun e w'=>e=.returned (.bool r)∧Below w.heap.size w w':=by
 have hu30:=Tryz.underlying30;have HR0_2:=aM hr0_2;have HC0_2:=aM hc0_2;clear hr0_2 hc0_2;have HR0_3:=aM hr0_3;have HC0_3:=aM hc0_3;clear hr0_3 hc0_3;have HR0_4:=aM hr0_4;have HC0_4:=aM hc0_4;clear hr0_4 hc0_4;have HR1_2:=aM hr1_2;have HC1_2:=aM hc1_2;clear hr1_2 hc1_2;have HR1_3:=aM hr1_3;have HC1_3:=aM hc1_3;clear hr1_3 hc1_3;have HR1_4:=aM hr1_4;have HC1_4:=aM hc1_4;clear hr1_4 hc1_4;have HB:=aM (Below.refl w.heap.size w);unfold forest_fits.f at h;have H:=h;clear h;have HT:=aM hT;clear hT;replace H:=itN H;obtain ⟨c3,H⟩:=H;have c3b0:=eq_true c3;have c3b1:=dT c3;clear c3;replace H:=bnA H;obtain ⟨t228,A4,H⟩:=H;revert H;refine itR ?L5p ?L5n
 case' L5p=>
  intro c5 H;subst c5;replace H:=bnA H;obtain ⟨⟨t229,t230⟩,A6,H⟩:=H;dsimp only at H;revert H;refine itQ ?L6p ?L6n
  case' L6p=>
   rintro ⟨c7b0,c7b1⟩ H;replace H:=bnA H;obtain ⟨t233,A8,H⟩:=H;obtain rfl:=sI H;have M1:=trivial;have M2:=trivial
  case' L6n=>
   rintro ⟨c7b0,c7b1⟩ c7 H;obtain rfl:=sI H;have M1:=trivial;have M3:=trivial
 case' L5n=>
  intro c5 H;replace c5:=Bool.eq_false_iff.mpr c5;subst c5;obtain rfl:=sI H;have M4:=trivial
 all_goals
  case _=>
   go_enter Tryz.func61,Tryz.ntmps61;(try go_wp2_with (first|((with_reducible refine gate_dst (N:=2) rfl ?_);refine boxB 2 #[.string a0_0,.string a0_1,.slice A0_2 l0_2.length c0_2,.slice A0_3 l0_3.length c0_3,.slice A0_4 l0_4.length c0_4,.int .i64 a0_5,.int .i64 a0_6,.int .i64 a0_7] 30 HB ?_;clear HB;intro gb225 w101 BK225 GW225 GE225 HB)|((with_reducible refine gate_dst (N:=3) rfl ?_);refine boxA 3 #[.string a1_0,.string a1_1,.slice A1_2 l1_2.length c1_2,.slice A1_3 l1_3.length c1_3,.slice A1_4 l1_4.length c1_4,.int .i64 a1_5,.int .i64 a1_6,.int .i64 a1_7] 30 ?_;intro gb226 hg w102 hbox hb;have BK226:=aM (hbox);have GW226:=aM (hgW hg:w.heap.size≤gb226);have GE226:=aM (hgW hg:w.heap.size≤gb226);have NB225_226:=aM (hgL hg BK225:gb225≠gb226);have NB226_225:=aM (hgG hg BK225:gb226≠gb225);replace BK225:=aM (bkB BK225 hb);replace HB:=aM (below_step (bwA) hb);clear hb hbox hg)));replace BK225:=aM (blk_drew BK225.out);replace BK226:=aM (blk_drew BK226.out);replace HB:=aM (below_drew1 HB.out);obtain ⟨i0104,hi0104,_,hsz104,_⟩:=info_parts info9;obtain ⟨A104,hcut104,hA104,hC104⟩:=print_drop_of (P:=Tryz.prog) Value.string (⟨#[]⟩:ByteArray) 28 9 .i64 Tryz.underlying28 hi0104 hsz104 A0_4 c0_4 l0_4 1 (by omega) (odA) HC0_4.out;have HR227:=aM (Kd.C_of_reads (h1:=fun _=>rfl) (hA104 _ (Kd.reads_of_C HR0_4.out)));have HC227:=aM hC104;clear hA104 hC104 hi0104 hsz104;refine start_ (n:=7) (S:=fun w'=>w'.cell? ⟨gb225,0,none⟩=some (.string a0_0)∧w'.cell? ⟨gb225,1,none⟩=some (.string a0_1)∧w'.cell? ⟨gb225,2,none⟩=some (.slice A0_2 l0_2.length c0_2)∧w'.cell? ⟨gb225,3,none⟩=some (.slice A0_3 l0_3.length c0_3)∧w'.cell? ⟨gb225,4,none⟩=some (.slice A0_4 l0_4.length c0_4)∧w'.cell? ⟨gb225,5,none⟩=some (.int .i64 a0_5)∧w'.cell? ⟨gb225,6,none⟩=some (.int .i64 a0_6)∧w'.cell? ⟨gb225,7,none⟩=some (.int .i64 a0_7)∧w'.cell? ⟨gb226,0,none⟩=some (.string a1_0)∧w'.cell? ⟨gb226,1,none⟩=some (.string a1_1)∧w'.cell? ⟨gb226,2,none⟩=some (.slice A1_2 l1_2.length c1_2)∧w'.cell? ⟨gb226,3,none⟩=some (.slice A1_3 l1_3.length c1_3)∧w'.cell? ⟨gb226,4,none⟩=some (.slice A1_4 l1_4.length c1_4)∧w'.cell? ⟨gb226,5,none⟩=some (.int .i64 a1_5)∧w'.cell? ⟨gb226,6,none⟩=some (.int .i64 a1_6)∧w'.cell? ⟨gb226,7,none⟩=some (.int .i64 a1_7)) (ds:=[]) (mkB 7 0) (by kernel_rfl) rfl rfl ⟨(blk_cell BK225.out 0).trans rfl,(blk_cell BK225.out 1).trans rfl,(blk_cell BK225.out 2).trans rfl,(blk_cell BK225.out 3).trans rfl,(blk_cell BK225.out 4).trans rfl,(blk_cell BK225.out 5).trans rfl,(blk_cell BK225.out 6).trans rfl,(blk_cell BK225.out 7).trans rfl,(blk_cell BK226.out 0).trans rfl,(blk_cell BK226.out 1).trans rfl,(blk_cell BK226.out 2).trans rfl,(blk_cell BK226.out 3).trans rfl,(blk_cell BK226.out 4).trans rfl,(blk_cell BK226.out 5).trans rfl,(blk_cell BK226.out 6).trans rfl,(blk_cell BK226.out 7).trans rfl⟩ (fun hHeld=>?_)
   generalize w102.drew=w103 at BK225 BK226 HB HR227 hHeld ⊢
   refine pure_ (i:=0) (N:=some 7) (v:=?_) (a':=?_) (mkB 7 1) rfl rfl (by kernel_rfl) (fun _ _ _ h=>h) (Or.inl ⟨by rfl,?_⟩) ?_ ?_;rotate_left
   ·intro w'
    go_simp
    with_reducible rfl
   rotate_left
   ·simp only [Act.put,List.setIfInBounds_toArray,List.set_cons_zero,List.set_cons_succ,i64_w,i32_w]
    rfl
   refine pure_ (i:=3) (N:=some 10) (v:=?_) (a':=?_) (mkB 7 9) rfl rfl (by kernel_rfl) (fun _ _ _ h=>h) (Or.inl ⟨by rfl,?_⟩) ?_ ?_;rotate_left
   ·intro w'
    go_simp
    with_reducible rfl
   rotate_left
   ·simp only [Act.put,List.setIfInBounds_toArray,List.set_cons_zero,List.set_cons_succ,i64_w,i32_w]
    rfl
   refine take_ (i:=1) (N:=some 8) (v:=?_) (a':=?_) (mkB 7 11) rfl rfl (by kernel_rfl) (fun _ _ _ h=>h) (Or.inl ⟨by rfl,?_⟩) hHeld ?_ ?_;rotate_left
   ·rintro w' ⟨s0,s1,s2,s3,s4,s5,s6,s7,s8,s9,s10,s11,s12,s13,s14,s15⟩
    go_simp
    with_reducible rfl
   rotate_left
   ·simp only [Act.put,List.setIfInBounds_toArray,List.set_cons_zero,List.set_cons_succ,i64_w,i32_w]
    rfl
   refine pure_ (i:=2) (N:=some 9) (v:=?_) (a':=?_) (mkB 7 15) rfl rfl (by kernel_rfl) (fun _ _ _ h=>h) (Or.inl ⟨by rfl,?_⟩) ?_ ?_;rotate_left
   ·intro w'
    go_simp
    with_reducible rfl
   rotate_left
   ·simp only [Act.put,List.setIfInBounds_toArray,List.set_cons_zero,List.set_cons_succ,i64_w,i32_w]
    rfl
   refine take_ (i:=4) (N:=some 11) (v:=?_) (a':=?_) (mkB 7 31) rfl rfl (by kernel_rfl) (fun _ _ _ h=>h) (Or.inl ⟨by rfl,?_⟩) hHeld ?_ ?_;rotate_left
   ·rintro w' ⟨s0,s1,s2,s3,s4,s5,s6,s7,s8,s9,s10,s11,s12,s13,s14,s15⟩
    go_simp
    with_reducible rfl
   rotate_left
   ·simp only [Act.put,List.setIfInBounds_toArray,List.set_cons_zero,List.set_cons_succ,i64_w,i32_w]
    rfl
   refine one_ (i:=5) (N:=some 12) (mkB 7 63) rfl rfl (by kernel_rfl) (by decide) (fun K hK=>?_);refine goes_ Tryz.func108 (by kernel_rfl) rfl #[.slice A104 (l0_4.drop 1).length (c0_4-1),.slice A1_4 l1_4.length c1_4,.func (.func 60) #[] #[]] (by rfl) rfl rfl (by (try simp only [List.map_toArray,List.map_cons,List.map_nil]);first|done|(rw [show (l0_4.drop 1).length=(l0_4.length-1) from List.length_drop]<;>rfl)|rfl|(simp only [List.length_drop,List.length_take];rfl)) ?_
   with_reducible refine (name_Alike.calls _ _ _ _ _ _ _ _ ?side1 ?side2 ?side3 ?side4 ?side5 A4.out).mono ?_
   (case side1=>exact Kd.C_below HR227.out (bwA))
   (case side2=>exact HC227.out)
   (case side3=>exact Kd.C_below HR1_4.out (bwA))
   (case side4=>exact HC1_4.out)
   (case side5=>exact Tabs.below HT.out (bwA))
   rintro e w105 ⟨rfl,hb⟩;refine ⟨_,rfl,?_⟩;replace BK225:=aM (bkB BK225 hb);replace BK226:=aM (bkB BK226 hb);replace HB:=aM (below_step (bwA) hb)
   (try clear hb)
   refine hK.out _ _ ⟨(blk_cell BK225.out 0).trans rfl,(blk_cell BK225.out 1).trans rfl,(blk_cell BK225.out 2).trans rfl,(blk_cell BK225.out 3).trans rfl,(blk_cell BK225.out 4).trans rfl,(blk_cell BK225.out 5).trans rfl,(blk_cell BK225.out 6).trans rfl,(blk_cell BK225.out 7).trans rfl,(blk_cell BK226.out 0).trans rfl,(blk_cell BK226.out 1).trans rfl,(blk_cell BK226.out 2).trans rfl,(blk_cell BK226.out 3).trans rfl,(blk_cell BK226.out 4).trans rfl,(blk_cell BK226.out 5).trans rfl,(blk_cell BK226.out 6).trans rfl,(blk_cell BK226.out 7).trans rfl⟩ (fun hHeld=>?_);clear hK K;refine normA ?_;refine pure_ (i:=6) (N:=some 13) (v:=?_) (a':=?_) (mkB 7 127) rfl rfl (by kernel_rfl) (fun _ _ _ h=>h) (Or.inl ⟨by rfl,?_⟩) ?_ ?_;rotate_left
   ·intro w'
    go_simp
    with_reducible rfl
   rotate_left
   ·simp only [Act.put,List.setIfInBounds_toArray,List.set_cons_zero,List.set_cons_succ,i64_w,i32_w]
    rfl
   refine done_ (by kernel_rfl) ?_
   first
    | clear M1
      have hnb106:=NB226_225.out;have hnc106:=NB225_226.out;obtain ⟨hcz107_0,hcz107_1,hcz107_2,hcz107_3,hcz107_4,hcz107_5,hcz107_6,hcz107_7⟩:=cel8 BK226.out;obtain ⟨hfz107_0,hfz107_1,hfz107_2,hfz107_3,hfz107_4,hfz107_5,hfz107_6,hfz107_7⟩:=frz8 BK226.out;obtain ⟨hcz108_0,hcz108_1,hcz108_2,hcz108_3,hcz108_4,hcz108_5,hcz108_6,hcz108_7⟩:=cel8 BK225.out;obtain ⟨hfz108_0,hfz108_1,hfz108_2,hfz108_3,hfz108_4,hfz108_5,hfz108_6,hfz108_7⟩:=frz8 BK225.out;go_wp2_with (first|((with_reducible refine gate_callee (f:=48) rfl ?_);refine goesA (some 19) Tryz.func48 #[.slice A1_3 l1_3.length c1_3,.slice A0_2 l0_2.length c0_2] ?_;(with_reducible refine (schema_Merge.calls _ _ _ _ _ _ _ _ _ _ ?side1 ?side2 ?side3 ?side4 ?side5 A6.out).mono ?_);(case side1=>exact Kd.C_below HR1_3.out (bwA));(case side2=>exact HC1_3.out);(case side3=>exact Kd.C_below HR0_2.out (bwA));(case side4=>exact HC0_2.out);(case side5=>exact Tabs.below HT.out (bwA));rintro e w109 ⟨v231,rfl,ho0,hb⟩;refine ⟨_,rfl,?_⟩;have HO232:=aM (Kd.R_lower ho0 (below_size (bwA)));replace BK225:=aM (bkB BK225 hb);replace BK226:=aM (bkB BK226 hb);replace HB:=aM (below_step (bwA) hb);(try clear hb);(try clear ho0);apply stopA;(case other=>exact trivial)))
      case _=>
       first
        | clear M2
          obtain ⟨hcz110_0,hcz110_1,hcz110_2,hcz110_3,hcz110_4,hcz110_5,hcz110_6,hcz110_7⟩:=cel8 BK225.out;obtain ⟨hfz110_0,hfz110_1,hfz110_2,hfz110_3,hfz110_4,hfz110_5,hfz110_6,hfz110_7⟩:=frz8 BK225.out;obtain ⟨Ao111,co111,eo111⟩:=Kd.R_slice HO232.out;subst eo111;(try go_wp2_with (first|(go_at_call 64;(with_reducible refine (api_Field_64.calls _ _ _ _ _ _ _ _ _ ?side1 ?side2 ?side3 ?side4 A8.out).mono ?_);(case side1=>repeat (first|exact (Kd.R_reads' HO232.out).2.2|(with_reducible refine Kd.C_alloc ?_ _)|(with_reducible refine Kd.C_drewN ?_ _)|(with_reducible refine Kd.C_drew ?_)));(case side2=>exact (Kd.R_reads' HO232.out).2.1);(case side3=>exact Kd.C_below HR0_3.out (bwA));(case side4=>exact HC0_3.out);rintro e w' ⟨rfl,⟨nd,rfl⟩⟩)));go_ret;exact ⟨endA,bwA⟩
        | clear M3
          (try go_wp2_with (fail))
          go_ret;exact ⟨endA,bwA⟩
    | clear M4
      (try go_wp2);go_ret;exact ⟨endA,bwA⟩
end Go.Proofs.YtpjjbaclphoilaaGreatDoor.A
