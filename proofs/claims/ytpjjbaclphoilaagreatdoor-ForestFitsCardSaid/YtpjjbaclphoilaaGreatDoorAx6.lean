import Derived.Test.YtpjjbaclphoilaaGreatDoorAx0
import Derived.Test.YtpjjbaclphoilaaGreatDoorAx4
import Derived.Test.YtpjjbaclphoilaaGreatDoorAx5
namespace Go.Proofs.YtpjjbaclphoilaaGreatDoor.A
open Go.RowKit Go.Proofs.YtpjjbaclphoilaaGreatDoorW.PrintWords Go.Proofs.YtpjjbaclphoilaaGreatDoorW.PrintLast Go.Proofs.YtpjjbaclphoilaaGreatDoorW.PrintMore
attribute [local go_sem] max2_int min2_int max_two min_two max_three min_three max_four min_four   -- for this text's walks alone
set_option linter.unusedVariables false
set_option linter.unusedSimpArgs false
set_option maxHeartbeats 8000000
set_option maxRecDepth 100000
mutual
def forest_chain.j0:Nat→List ByteArray→Bool→Option (Bool)
 | 0,_,_=>none
 | k+1,x0,x21=>if x21=true then (some false) else (forest_chain.l0 k x0 x0 (x0.length:Int) 0)
def forest_chain.l0:Nat→List ByteArray→List ByteArray→Int→Int→Option (Bool)
 | 0,_,_,_,_=>none
 | k+1,x0,x22,x23,x24=>if x24<x23 then (if 0≤x24 then (if x24<(x22.length:Int) then ((name_Check.f k (rdOf ByteArray.empty x22 x24)).bind fun t157=>(if t157=0 then (if x24≤(x0.length:Int) then ((forest_has.f (x0.take (x24:Int).toNat) (rdOf ByteArray.empty x22 x24)).bind fun t159=>(if t159=true then (some false) else (forest_chain.l0 k x0 x22 x23 (wrap64 (x24+1))))) else (none)) else (some false))) else (none)) else (none)) else (some true)
end
def forest_chain.f (k:Nat) (l0:List ByteArray) (a1:ByteArray):Option (Bool):=if (l0.length:Int)<1 then (forest_chain.j0 k l0 true) else (if (l0.length:Int)>8 then (forest_chain.j0 k l0 true) else (if 0<(l0.length:Int) then (forest_chain.j0 k l0 ((rdOf ByteArray.empty l0 0).toList != a1.toList)) else (none)))
theorem forest_chain.calls (k:Nat) (A0:Option Addr) (c0:Nat) (l0:List ByteArray) (a1:ByteArray) (r:Bool) (w:World) (hr0:Kd.C Kd.string w A0 l0.length l0) (hc0:l0.length≤c0) (hT:Tabs w) (h:forest_chain.f k l0 a1=some r):
  Calls Tryz.prog 79 #[.slice A0 l0.length c0,.string a1] w fun e w'=>e=.returned (.bool r)∧Below w.heap.size w w':=by
 have HR0:=aM hr0;have HC0:=aM hc0;clear hr0 hc0;have HB:=aM (Below.refl w.heap.size w);unfold forest_chain.f at h;have H:=h;clear h;have HT:=aM hT;clear hT;have HC101:=aM H;clear H;go_enter Tryz.func79,Tryz.ntmps79;go_upto_region 1 with (fail);go_cut [21] (fun v21 wc=>∃ (kq:Nat) (x21_100:Bool),v21=.bool x21_100∧Aside0 (forest_chain.j0 kq l0 x21_100=some r)∧Aside0 (kq≤k)∧Aside0 (Below w.heap.size w wc))
 case first=>
  have H:=HC101.out;clear HC101;revert H;refine itR ?L1p ?L1n
  case' L1p=>
   intro c102 H;have c102b0:=dT c102;have c102b1:decide (l0.length<1)=true:=dT (by omega);clear c102
   (first|rw [c102b0]|(simp only [i64_w,i32_w];rw [c102b0])|skip)
   have H':=aM H;clear H
  case' L1n=>
   intro c102 H;have c102b0:=dF c102;have c102b1:decide (l0.length<1)=false:=dF (by omega);clear c102
   (first|rw [c102b0]|(simp only [i64_w,i32_w];rw [c102b0])|skip)
   revert H;refine itR ?L2p ?L2n
   case' L2p=>
    intro c103 H;have c103b0:=gtT c103;have c103b1:decide (8<l0.length)=true:=dT (by omega);clear c103;have H':=aM H;clear H
   case' L2n=>
    intro c103 H;have c103b0:=gtF c103;have c103b1:decide (8<l0.length)=false:=dF (by omega);clear c103;replace H:=itN H;obtain ⟨c104,H⟩:=H;have c104b0:=dT c104;have c104b1:decide (0<l0.length)=true:=dT (by omega);clear c104;have H':=aM H;clear H;have p155:0≤(0:Int):=(by omega);have q155:0<(l0.length:Int):=odA;obtain ⟨ad155,e155,hx155_0⟩:=Kd.at_string HR0.out 0 p155 q155
    cases e155
    have qi155:(0<l0.length)=True:=eq_true (by omega)
    (try rw [show ((0:Int)).toNat=0 from rfl] at hx155_0)
    (try rw [Addr.add_zero'] at hx155_0)
    replace hx155_0:=crA hx155_0;replace p155:=eq_true p155;replace q155:=eq_true q155;go_wp2
    go_meet
    case rel=>exact ⟨_,(((rdOf ByteArray.empty l0 0).toList != a1.toList)),(endS),H',⟨by first|omega|exact Nat.le_refl _⟩,⟨bwA⟩⟩
  all_goals
   case _=>
    go_wp2
    go_meet
    case rel=>exact ⟨_,(true),(endS),H',⟨by first|omega|exact Nat.le_refl _⟩,⟨bwA⟩⟩
 case rest=>
  clear HC101;(try clear c1);(try clear p1);(try clear q1);(try clear hx1);(try clear qi1);(try clear p2);(try clear c7);(try clear c10);(try clear p15);(try clear q15);(try clear hx15);(try clear qi15);(try clear c79);(try clear hx155_0);(try clear p155);(try clear q155);obtain ⟨kq,x21_100,rfl,HA,HJ100,HB⟩:=hcut
  cases kq with
  | zero=>exact absurd HA.out (by simp [forest_chain.j0])
  | succ kj100=>
   have H:=HA.out;clear HA;simp only [forest_chain.j0] at H;revert H;refine itR ?L12p ?L12n
   case' L12p=>
    intro c102 H;subst c102;obtain rfl:=sI H;have M10:=trivial
   case' L12n=>
    intro c102 H;replace c102:=Bool.eq_false_iff.mpr c102;subst c102;have H':=aM H;clear H;have M11:=trivial
   all_goals
    case _=>
     go_wp2
     first
      | clear M10
        go_ret;exact ⟨endA,bwA⟩
      | clear M11
        go_loopg [24] kj100 (fun kq v24 w'=>∃ (x24_2:Int),v24=.int .i64 x24_2∧Aside0 (forest_chain.l0 kq l0 l0 (l0.length:Int) x24_2=some r)∧Aside0 (kq≤kj100)∧Aside0 (Below w.heap.size w w'))
        case atStart=>exact ⟨(0),(endS),H',⟨Nat.le_refl _⟩,⟨bwA⟩⟩
        case round=>
         clear H';(try clear c1);(try clear p1);(try clear q1);(try clear hx1);(try clear qi1);(try clear p2);(try clear c7);(try clear c10);(try clear p15);(try clear q15);(try clear hx15);(try clear qi15);(try clear c79);(try clear c102);(try clear c102b0);(try clear c102b1);(try clear c103);(try clear c103b0);(try clear c103b1);(try clear c104);(try clear c104b0);(try clear c104b1);(try clear p155);(try clear q155);(try clear hx155);(try clear qi155);(try clear hx155_0);(try clear p1);(try clear p15);(try clear p155);(try clear p2);(try clear q1);(try clear q15);(try clear q155);obtain ⟨x24_2,rfl,HA,HK2,HB⟩:=hrel
         cases gk with
         | zero=>exact absurd HA.out (by simp [forest_chain.l0])
         | succ k2=>
          have H:=HA.out;clear HA;simp only [forest_chain.l0] at H;revert H;refine itR ?L7p ?L7n
          case' L7p=>
           intro c201 H;have c201b0:=dT c201;clear c201;replace H:=itN H;obtain ⟨c202,H⟩:=H;have c202b0:=dT c202;clear c202;replace H:=itN H;obtain ⟨c203,H⟩:=H;have c203b0:=dT c203;clear c203;replace H:=bnA H;obtain ⟨t157,A204,H⟩:=H;revert H;refine itQ ?L8p ?L8n
           case' L8p=>
            rintro ⟨c205b0,c205b1⟩ H;have c206b0:=eq_true (odA:0≤x24_2);replace H:=itN H;obtain ⟨c207,H⟩:=H;have c207b0:=eq_true c207;have c207b1:=dT c207;clear c207;replace H:=bnA H;obtain ⟨t159,A208,H⟩:=H;revert H;refine itR ?L9p ?L9n
            case' L9p=>
             intro c209 H;subst c209;obtain rfl:=sI H;have M3:=trivial;have M4:=trivial
            case' L9n=>
             intro c209 H;replace c209:=Bool.eq_false_iff.mpr c209;subst c209;have H':=aM H;clear H;have M3:=trivial;have M5:=trivial
           case' L8n=>
            rintro ⟨c205b0,c205b1⟩ c205 H;obtain rfl:=sI H;have M6:=trivial
          case' L7n=>
           intro c201 H;have c201b0:=dF c201;clear c201;obtain rfl:=sI H;go_wp2;go_ret;exact ⟨endA,bwA⟩
          all_goals
           case _=>
            have p156:0≤(x24_2:Int):=odA;have q156:x24_2<(l0.length:Int):=odA;obtain ⟨ad156,e156,hx156_0⟩:=Kd.at_string HR0.out x24_2 p156 q156
            cases e156
            replace hx156_0:=crA hx156_0;replace p156:=eq_true p156;replace q156:=eq_true q156;go_wp2_with (first|((with_reducible refine gate_callee (f:=41) rfl ?_);refine goesA (some 30) Tryz.func41 #[.string (rdOf ByteArray.empty l0 x24_2)] ?_;(with_reducible refine (name_Check.calls _ _ _ _ ?side1 A204.out).mono ?_);(case side1=>exact Tabs.below HT.out (bwA));rintro e w301 ⟨rfl,hb⟩;refine ⟨_,rfl,?_⟩;replace HB:=aM (below_step (bwA) hb);(try clear hb);apply stopA;(case other=>exact trivial)))
            case _=>
             first
              | clear M3
                obtain ⟨i0302,hi0302,_,hsz302,_⟩:=info_parts info9;obtain ⟨hcut302,hA302,hC302⟩:=print_take_of (P:=Tryz.prog) Value.string (⟨#[]⟩:ByteArray) 28 9 .i64 Tryz.underlying28 hi0302 hsz302 (some ad156) c0 l0 x24_2 (odA) (odA) HC0.out;have HR158:=aM (Kd.C_of_reads (h1:=fun _=>rfl) (hA302 _ (Kd.reads_of_C HR0.out)));have HC158:=aM hC302;clear hA302 hC302 hi0302 hsz302;have hl_:(List.take (x24_2:Int).toNat l0).length=(x24_2:Int).toNat:=by have h0_:0≤(x24_2:Int):=odA;have h1_:x24_2≤(l0.length:Int):=odA;rw [List.length_take];omega
                try go_wp2_with (first|(go_at_call 47;(with_reducible refine (calls_eq (by rw [hl_]) (forest_has.calls (some ad156) c0 _ _ _ _ ?side1 ?side2 ?side3 A208.out)).mono ?_);(case side1=>exact Kd.C_below HR158.out (bwA));(case side2=>exact HC158.out);(case side3=>exact Tabs.below HT.out (bwA));rintro e w303 ⟨rfl,hb⟩;replace HB:=aM (below_step (bwA) hb);(try clear hb)))
                first
                 | clear M4
                   go_ret;exact ⟨endA,bwA⟩
                 | clear M5
                   go_roundg k2
                   case measure=>have:=HJ100.out;have:=HK2.out;omega
                   case rel=>exact ⟨(wrap64 (x24_2+1)),(endS),H',⟨by have:=HJ100.out;have:=HK2.out;omega⟩,⟨bwA⟩⟩
              | clear M6
                (try go_wp2_with (fail))
                go_ret;exact ⟨endA,bwA⟩
def schema_Find.f (l0:List S86) (a1:ByteArray):Option (ByteArray × Int × Bool × Bool):=(idxK (fun x:S86=>name_Same.f x.f0 a1) l0 0).bind fun i=>if i<0 then some (⟨#[]⟩,0,false,false) else some ((rd_T86 l0 i).f0,(rd_T86 l0 i).f1,(rd_T86 l0 i).f2,true)
theorem schema_Find1.calls (B:Nat) (s:ByteArray) (x:S86) (cs:List Value) (b:Bool) (w:World) (hT:Tabs w) (hB:B<w.heap.size) (hcell:w.cell? ⟨B,0,none⟩=some (.string s)) (hx:name_Same.f x.f0 s=some b) (hK:k86.K w x cs):
  Calls Tryz.prog 137 #[.agg cs.toArray,.pointer (some ⟨B,0,none⟩)] w fun e w'=>e=.returned (.bool b)∧Below w.heap.size w w':=by
 obtain rfl:=k86_open hK;have cS:=fun W (hb:Below w.heap.size w W)=>name_Same.calls x.f0 s b W (hT.below hb) hx
 have hne:B≠w.heap.size:=by omega
 clear hT hx hK;go_enter Tryz.func137,Tryz.ntmps137;go_wp2_with (go_at_call 60;refine (cS _ ((Below.refl _ w).alloc (Nat.le_refl _) _)).mono ?_;rintro e w' ⟨rfl,hb'⟩);go_ret;exact ⟨rfl,((Below.refl _ w).alloc (Nat.le_refl _) _).trans (hb'.mono (by simp))⟩
theorem schema_Find.calls (A0:Option Addr) (c0:Nat) (l0:List S86) (a1:ByteArray) (r1:ByteArray) (r2:Int) (r3:Bool) (r4:Bool) (w:World) (hr0:Kd.C k86 w A0 l0.length l0) (hc0:l0.length≤c0) (hT:Tabs w) (h:schema_Find.f l0 a1=some (r1,r2,r3,r4)):
  Calls Tryz.prog 97 #[.slice A0 l0.length c0,.string a1] w fun e w'=>e=.returned (.tuple #[.agg #[.string r1,.int .i64 r2,.bool r3],.bool r4])∧Below w.heap.size w w':=by
 have inst:Inhabited S86:=⟨z86⟩;unfold schema_Find.f at h;obtain ⟨i,hi,h⟩:=Option.bind_eq_some_iff.1 h;have hin:=idxK_in _ _ _ _ hi;have eg:∀ args w,(callFunc 137 args).run Tryz.prog w=.ok (.enter 137 args) w:=enters_of Tryz.func137 (by kernel_rfl) rfl
 have hcon:=fun W (hb:Below w.heap.size w W) (hB:w.heap.size<W.heap.size) (hcell:W.cell? ⟨w.heap.size,0,none⟩=some (.string a1))=>
  idxField (α:=S86) k86 (by decide) Tryz.sizeOf86 (fun x:S86=>name_Same.f x.f0 a1) 137 #[.pointer (some ⟨w.heap.size,0,none⟩)] eg A0 l0.length c0 l0 i W
   (fun W2 x cs b hx hb2 hK=>(schema_Find1.calls w.heap.size a1 x cs b W2 (hT.below (hb.trans (hb2.mono hb.size))) (Nat.lt_of_lt_of_le hB hb2.size) ((hb2.cell (p:=⟨w.heap.size,0,none⟩) hB).trans hcell) hx hK).mono fun e w' ⟨he,hw⟩=>⟨he,hb2.trans (hw.mono hb2.size)⟩)
   (Kd.C_below hr0 hb) hi
 have hA:=fun (h0:¬ i<0) W (hW:Below w.heap.size w W)=>at_T86 (Kd.C_below hr0 hW) i (by omega) (by omega)
 have hle:w.heap.size≤w.heap.size+1:=Nat.le_succ _;clear hi hT eg hr0
 by_cases h0:i<0
 ·rw [if_pos h0] at h
  have h:=sI h;simp only [Prod.mk.injEq] at h;obtain ⟨rfl,rfl,rfl,rfl⟩:=h;clear hin hA;go_enter Tryz.func97,Tryz.ntmps97;go_wp2_with (go_at_call 136;refine (hcon _ (((Below.refl _ w).alloc (Nat.le_refl _) _).alloc (by simp) _) (by simp<;>omega) (by simp)).mono ?_;rintro e w' ⟨rfl,hb'⟩;have hB:=(((Below.refl _ w).alloc (Nat.le_refl _) _).alloc (by simp) _:Below w.heap.size w ((w.alloc (.cells #[.string a1] 9)).alloc (.cells #[.string ⟨#[]⟩,.int .i64 0,.bool false] 86))).trans (hb'.mono (by simp<;>omega));have hg:w'.heap[w.heap.size+1]? = some (.cells #[.string ⟨#[]⟩,.int .i64 0,.bool false] 86 (0,0)):=(hb'.block _ (by simp)).trans (by have q:=heap_alloc_new (w.alloc (.cells #[.string a1] 9)) (.cells #[.string ⟨#[]⟩,.int .i64 0,.bool false] 86 (0,0));rw [show (w.alloc (.cells #[.string a1] 9)).heap.size=w.heap.size+1 from by show (w.heap.push _).size=_;rw [Array.size_push]] at q;exact q);have z0:=(blk_cell hg 0).trans rfl;have f0:=blk_frozen hg 0;have z1:=(blk_cell hg 1).trans rfl;have f1:=blk_frozen hg 1;have z2:=(blk_cell hg 2).trans rfl;have f2:=blk_frozen hg 2;clear hcon hb');refine bodyPost_ret (results_ct rfl _ _ (w.heap.size+1) 86 #[.string ⟨#[]⟩,.int .i64 0,.bool false] (0,0) _ rfl (by refine blk_put (cs:=#[.string (⟨#[]⟩:ByteArray),.int .i64 0,.bool false]) ?_ 2 _ rfl;refine blk_put (cs:=#[.string (⟨#[]⟩:ByteArray),.int .i64 0,.bool false]) ?_ 1 _ rfl;refine blk_put (cs:=#[.string ⟨#[]⟩,.int .i64 0,.bool false]) ?_ 0 _ rfl;  exact hg) Tryz.underlying86 rfl (by kernel_rfl)) rfl ?_;exact ⟨rfl,by repeat (first|exact hB|refine below_set ?_ hle)⟩
 ·rw [if_neg h0] at h
  have h:=sI h;simp only [Prod.mk.injEq] at h;have hA:=hA h0;have hi0:0≤i:=by omega
  have hi1:i<(l0.length:Int):=by omega
  clear hin h0
  generalize rd_T86 l0 i=y at h hA
  obtain ⟨rfl,rfl,rfl,rfl⟩:=h;go_enter Tryz.func97,Tryz.ntmps97;go_wp2_with (go_at_call 136;refine (hcon _ (((Below.refl _ w).alloc (Nat.le_refl _) _).alloc (by simp) _) (by simp<;>omega) (by simp)).mono ?_;rintro e w' ⟨rfl,hb'⟩;have hB:=(((Below.refl _ w).alloc (Nat.le_refl _) _).alloc (by simp) _:Below w.heap.size w ((w.alloc (.cells #[.string a1] 9)).alloc (.cells #[.string ⟨#[]⟩,.int .i64 0,.bool false] 86))).trans (hb'.mono (by simp<;>omega));have hg:w'.heap[w.heap.size+1]? = some (.cells #[.string ⟨#[]⟩,.int .i64 0,.bool false] 86 (0,0)):=(hb'.block _ (by simp)).trans (by have q:=heap_alloc_new (w.alloc (.cells #[.string a1] 9)) (.cells #[.string ⟨#[]⟩,.int .i64 0,.bool false] 86 (0,0));rw [show (w.alloc (.cells #[.string a1] 9)).heap.size=w.heap.size+1 from by show (w.heap.push _).size=_;rw [Array.size_push]] at q;exact q);have z0:=(blk_cell hg 0).trans rfl;have f0:=blk_frozen hg 0;have z1:=(blk_cell hg 1).trans rfl;have f1:=blk_frozen hg 1;have z2:=(blk_cell hg 2).trans rfl;have f2:=blk_frozen hg 2;obtain ⟨ad,rfl,q0,q1,q2⟩:=hA _ hB;clear hcon hb' hA);refine bodyPost_ret (results_ct rfl _ _ (w.heap.size+1) 86 #[.string (y.f0),.int .i64 (y.f1),.bool (y.f2)] (0,0) _ rfl (by refine blk_put (cs:=#[.string (y.f0),.int .i64 (y.f1),.bool false]) ?_ 2 _ rfl;refine blk_put (cs:=#[.string (y.f0),.int .i64 0,.bool false]) ?_ 1 _ rfl;refine blk_put (cs:=#[.string ⟨#[]⟩,.int .i64 0,.bool false]) ?_ 0 _ rfl;  exact hg) Tryz.underlying86 rfl (by kernel_rfl)) rfl ?_;exact ⟨rfl,by repeat (first|exact hB|refine below_set ?_ hle)⟩
def schema_Within.f (l0:List S86) (l1:List S86):Option Bool:=(idxK (fun x:S86=>(schema_Find.f l1 x.f0).bind fun t=>some (if t.2.2.2=true then (if t.2.1=x.f1 then t.2.2.1 != x.f2 else true) else true)) l0 0).bind fun i=>some (!(decide (0≤i)))
theorem schema_Within1.calls (B:Nat) (A1:Option Addr) (c1:Nat) (l1:List S86) (x:S86) (cs:List Value) (b:Bool) (w:World) (hT:Tabs w) (hB:B<w.heap.size) (hcell:w.cell? ⟨B,0,none⟩=some (.slice A1 l1.length c1)) (hr1:Kd.C k86 w A1 l1.length l1) (hc1:l1.length≤c1) (hx:((schema_Find.f l1 x.f0).bind fun t=>some (if t.2.2.2=true then (if t.2.1=x.f1 then t.2.2.1 != x.f2 else true) else true))=some b) (hK:k86.K w x cs):
  Calls Tryz.prog 125 #[.agg cs.toArray,.pointer (some ⟨B,0,none⟩)] w fun e w'=>e=.returned (.bool b)∧Below w.heap.size w w':=by
 obtain rfl:=k86_open hK;obtain ⟨⟨t1,t2,t3,t4⟩,ht,hx⟩:=Option.bind_eq_some_iff.1 hx;have cS:=fun W (hb:Below w.heap.size w W)=>schema_Find.calls A1 c1 l1 x.f0 t1 t2 t3 t4 W (Kd.C_below hr1 hb) hc1 (hT.below hb) ht
 have hne:B≠w.heap.size:=by omega
 have hx:=sI hx;dsimp only at hx;clear hT hK ht hr1
 cases t4 with
 | false=>
  rw [if_neg (by decide)] at hx;subst hx;go_enter Tryz.func125,Tryz.ntmps125;go_wp2_with (go_at_call 97;refine (cS _ (by repeat (first|exact Below.refl _ _|apply below_alloc))).mono ?_;rintro e w' ⟨rfl,hb'⟩);go_ret;exact ⟨rfl,by repeat (first|exact (((below_alloc (Below.refl _ _) _)).trans (hb'.mono (by simp)))|apply below_alloc|refine below_set ?_ (by have:=hb'.size;simp at this ⊢;omega))⟩
 | true=>
  rw [if_pos rfl] at hx
  by_cases h2:t2=x.f1
  ·rw [if_pos h2] at hx
   subst hx;subst h2;go_enter Tryz.func125,Tryz.ntmps125;go_wp2_with (go_at_call 97;refine (cS _ (by repeat (first|exact Below.refl _ _|apply below_alloc))).mono ?_;rintro e w' ⟨rfl,hb'⟩;have hlt0:w.heap.size<w'.heap.size:=Nat.lt_of_lt_of_le (by simp) hb'.size;have y1:=Lib.cell?_alloc_some (.cells #[.string t1,.int .i64 x.f1,.bool t3] 86) ((hb'.cell (p:=⟨w.heap.size,1,none⟩) (by simp)).trans ((Lib.cell_of_heap (heap_alloc_new w _) 1).trans rfl));have y2:=Lib.cell?_alloc_some (.cells #[.string t1,.int .i64 x.f1,.bool t3] 86) ((hb'.cell (p:=⟨w.heap.size,2,none⟩) (by simp)).trans ((Lib.cell_of_heap (heap_alloc_new w _) 2).trans rfl)));go_ret;exact ⟨rfl,by repeat (first|exact (((below_alloc (Below.refl _ _) _)).trans (hb'.mono (by simp)))|apply below_alloc|refine below_set ?_ (by have:=hb'.size;simp at this ⊢;omega))⟩
  ·rw [if_neg h2] at hx
   subst hx;have b1:(t2 == x.f1)=false:=beq_eq_false_iff_ne.2 h2;have b2:(t2 != x.f1)=true:=by rw [bne,b1];rfl
   have b3:decide (t2=x.f1)=false:=dF h2;go_enter Tryz.func125,Tryz.ntmps125;go_wp2_with (go_at_call 97;refine (cS _ (by repeat (first|exact Below.refl _ _|apply below_alloc))).mono ?_;rintro e w' ⟨rfl,hb'⟩;have hlt0:w.heap.size<w'.heap.size:=Nat.lt_of_lt_of_le (by simp) hb'.size;have y1:=Lib.cell?_alloc_some (.cells #[.string t1,.int .i64 t2,.bool t3] 86) ((hb'.cell (p:=⟨w.heap.size,1,none⟩) (by simp)).trans ((Lib.cell_of_heap (heap_alloc_new w _) 1).trans rfl));have y2:=Lib.cell?_alloc_some (.cells #[.string t1,.int .i64 t2,.bool t3] 86) ((hb'.cell (p:=⟨w.heap.size,2,none⟩) (by simp)).trans ((Lib.cell_of_heap (heap_alloc_new w _) 2).trans rfl)));go_ret;exact ⟨rfl,by repeat (first|exact (((below_alloc (Below.refl _ _) _)).trans (hb'.mono (by simp)))|apply below_alloc|refine below_set ?_ (by have:=hb'.size;simp at this ⊢;omega))⟩
theorem schema_Within.calls (A0:Option Addr) (c0:Nat) (l0:List S86) (A1:Option Addr) (c1:Nat) (l1:List S86) (r:Bool) (w:World) (hr0:Kd.C k86 w A0 l0.length l0) (hc0:l0.length≤c0) (hr1:Kd.C k86 w A1 l1.length l1) (hc1:l1.length≤c1) (hT:Tabs w) (h:schema_Within.f l0 l1=some r):
  Calls Tryz.prog 80 #[.slice A0 l0.length c0,.slice A1 l1.length c1] w fun e w'=>e=.returned (.bool r)∧Below w.heap.size w w':=by
 have inst:Inhabited S86:=⟨z86⟩;unfold schema_Within.f at h;obtain ⟨i,hi,h⟩:=Option.bind_eq_some_iff.1 h;obtain rfl:=sI h;have eg:∀ args w,(callFunc 125 args).run Tryz.prog w=.ok (.enter 125 args) w:=enters_of Tryz.func125 (by kernel_rfl) rfl
 have hcon:=fun W (hb:Below w.heap.size w W) (hB:w.heap.size<W.heap.size) (hcell:W.cell? ⟨w.heap.size,0,none⟩=some (.slice A1 l1.length c1))=>
  hasField (α:=S86) k86 (by decide) Tryz.sizeOf86 _ 125 #[.pointer (some ⟨w.heap.size,0,none⟩)] eg A0 l0.length c0 l0 i W
   (fun W2 x cs b hx hb2 hK=>(schema_Within1.calls w.heap.size A1 c1 l1 x cs b W2 (hT.below (hb.trans (hb2.mono hb.size))) (Nat.lt_of_lt_of_le hB hb2.size) ((hb2.cell (p:=⟨w.heap.size,0,none⟩) hB).trans hcell) (Kd.C_below hr1 (hb.trans (hb2.mono hb.size))) hc1 hx hK).mono fun e w' ⟨he,hw⟩=>⟨he,hb2.trans (hw.mono hb2.size)⟩)
   (Kd.C_below hr0 hb) hi
 have HCON:=aM hcon;clear hr0 hr1 hT hi eg hcon;go_enter Tryz.func80,Tryz.ntmps80;go_wp2_with (go_at_call 124;refine (HCON.out _ ((Below.refl _ w).alloc (Nat.le_refl _) _) (by simp) ((Lib.cell_of_heap (heap_alloc_new w _) 0).trans rfl)).mono ?_;rintro e w' ⟨rfl,hb'⟩);go_ret;exact ⟨rfl,((Below.refl _ w).alloc (Nat.le_refl _) _).trans (hb'.mono (by simp))⟩
def forest_Check.j0:Nat→Bool→ByteArray→ByteArray→List (S86)→List (S86)→List ByteArray→Int→Int→Int→Option (Bool)
 | 0,_,_,_,_,_,_,_,_,_=>none
 | k+1,x26,x161000,x161001,x161002,x161003,x161004,x161005,x161006,x161007=>if x26=true then (some false) else (if (x161004.length:Int)=1 then (if x161001.toList=([]:List UInt8) then ((api_Field_64.f k x161002 x161003).bind fun t165=>(some t165)) else (some false)) else (if 1<(x161004.length:Int) then (if x161001.toList=(rdOf ByteArray.empty x161004 1).toList then ((schema_Within.f x161002 x161003).bind fun t167=>(some t167)) else (some false)) else (none)))
def forest_Check.f (k:Nat) (a0_0:ByteArray) (a0_1:ByteArray) (l0_2:List (S86)) (l0_3:List (S86)) (l0_4:List ByteArray) (a0_5:Int) (a0_6:Int) (a0_7:Int):Option (Bool):=(schema_Check.f k l0_2).bind fun t161=>(if t161=true then ((schema_Check.f k l0_3).bind fun t162=>(if t162=true then ((forest_IsID.f a0_5 a0_6 a0_7).bind fun t163=>(if t163=true then ((forest_chain.f k l0_4 a0_0).bind fun t164=>(forest_Check.j0 k (!t164) a0_0 a0_1 l0_2 l0_3 l0_4 a0_5 a0_6 a0_7)) else (forest_Check.j0 k true a0_0 a0_1 l0_2 l0_3 l0_4 a0_5 a0_6 a0_7))) else (forest_Check.j0 k true a0_0 a0_1 l0_2 l0_3 l0_4 a0_5 a0_6 a0_7))) else (forest_Check.j0 k true a0_0 a0_1 l0_2 l0_3 l0_4 a0_5 a0_6 a0_7))
def forest_Check.T5:Bool × List (List Nat × List Nat):=(true,[([],[]),([0],[0]),([],[]),([2],[2]),([3],[3]),([4],[4]),([1,5],[1,5]),([6],[6]),([7],[7]),([8,7],[7,8]),([7],[7]),([10,7],[7,10]),([9,11,7,7],[7,9,11]),([7,12],[7,12]),([13,12,0,1,2,3,4,5,6,7,8,9,10,11,12,13],[13])])
def forest_Check.B5:List Nat:=[0,1,0,4,12,28,63,127,255,511,255,1279,4095,8191,16383]
theorem forest_Check.tab5:rtab .any (opsOf Tryz.f36 5)=forest_Check.T5:=by kernel_rfl
theorem forest_Check.bits5:waitsOk forest_Check.T5.2 forest_Check.B5=true:=by kernel_rfl
theorem forest_Check.calls (k:Nat) (a0_0:ByteArray) (a0_1:ByteArray) (A0_2:Option Addr) (c0_2:Nat) (l0_2:List (S86)) (A0_3:Option Addr) (c0_3:Nat) (l0_3:List (S86)) (A0_4:Option Addr) (c0_4:Nat) (l0_4:List ByteArray) (a0_5:Int) (a0_6:Int) (a0_7:Int) (r:Bool) (w:World) (hr0_2:Kd.C k86 w A0_2 l0_2.length l0_2) (hc0_2:l0_2.length≤c0_2) (hr0_3:Kd.C k86 w A0_3 l0_3.length l0_3) (hc0_3:l0_3.length≤c0_3) (hr0_4:Kd.C Kd.string w A0_4 l0_4.length l0_4) (hc0_4:l0_4.length≤c0_4) (hT:Tabs w) (h:forest_Check.f k a0_0 a0_1 l0_2 l0_3 l0_4 a0_5 a0_6 a0_7=some r):
  Calls Tryz.prog 36 #[.agg #[.string a0_0,.string a0_1,.slice A0_2 l0_2.length c0_2,.slice A0_3 l0_3.length c0_3,.slice A0_4 l0_4.length c0_4,.int .i64 a0_5,.int .i64 a0_6,.int .i64 a0_7]] w fun e w'=>e=.returned (.bool r)∧Below w.heap.size w w':=by
 have hu30:=Tryz.underlying30;have hu25:=Tryz.underlying25;have HR0_2:=aM hr0_2;have HC0_2:=aM hc0_2;clear hr0_2 hc0_2;have HR0_3:=aM hr0_3;have HC0_3:=aM hc0_3;clear hr0_3 hc0_3;have HR0_4:=aM hr0_4;have HC0_4:=aM hc0_4;clear hr0_4 hc0_4;have HB:=aM (Below.refl w.heap.size w);unfold forest_Check.f at h;have H:=h;clear h;have HT:=aM hT;clear hT;have HC101:=aM H;clear H;go_enter Tryz.func36,Tryz.ntmps36;go_upto_region 1 with (first|((with_reducible refine gate_dst (N:=1) rfl ?_);refine boxA 1 #[.string a0_0,.string a0_1,.slice A0_2 l0_2.length c0_2,.slice A0_3 l0_3.length c0_3,.slice A0_4 l0_4.length c0_4,.int .i64 a0_5,.int .i64 a0_6,.int .i64 a0_7] 30 ?_;intro gb160 hg w102 hbox hb;have n0_:=aM (below_step (bwA) hb);have n1_:=aM (hbox);have n2_:=aM (hgW hg:w.heap.size≤gb160);have n3_:=aM (hgW hg:w.heap.size≤gb160);clear HB;have HB:=n0_;have BK160:=n1_;have GW160:=n2_;have GE160:=n3_;clear n0_ n1_ n2_ n3_;clear hb hbox hg))
 (try simp only [Act.put,List.setIfInBounds_toArray,List.set_cons_zero,List.set_cons_succ])
 go_cut [26] (fun v26 wc=>∃ (kq:Nat) (x26_100:Bool),v26=.bool x26_100∧Aside0 (forest_Check.j0 kq x26_100 a0_0 a0_1 l0_2 l0_3 l0_4 a0_5 a0_6 a0_7=some r)∧Aside0 (kq≤k)∧Aside0 (wc.heap[gb160]? = some (.cells #[.string a0_0,.string a0_1,(.slice A0_2 l0_2.length c0_2),(.slice A0_3 l0_3.length c0_3),(.slice A0_4 l0_4.length c0_4),.int .i64 a0_5,.int .i64 a0_6,.int .i64 a0_7] 30 (0,0)))∧Aside0 (Below w.heap.size w wc))
 case first=>
  have H:=HC101.out;clear HC101;replace H:=bnA H;obtain ⟨t161,A103,H⟩:=H;revert H;refine itR ?L7p ?L7n
  case' L7p=>
   intro c104 H;subst c104;replace H:=bnA H;obtain ⟨t162,A105,H⟩:=H;revert H;refine itR ?L8p ?L8n
   case' L8p=>
    intro c106 H;subst c106;replace H:=bnA H;obtain ⟨t163,A107,H⟩:=H;revert H;refine itR ?L9p ?L9n
    case' L9p=>
     intro c108 H;subst c108;replace H:=bnA H;obtain ⟨t164,A109,H⟩:=H;have H':=aM H;clear H;have M1:=trivial;have M2:=trivial;have M3:=trivial
    case' L9n=>
     intro c108 H;replace c108:=Bool.eq_false_iff.mpr c108;subst c108;have H':=aM H;clear H;have M1:=trivial;have M2:=trivial;have M4:=trivial
   case' L8n=>
    intro c106 H;replace c106:=Bool.eq_false_iff.mpr c106;subst c106;have H':=aM H;clear H;have M1:=trivial;have M5:=trivial
  case' L7n=>
   intro c104 H;replace c104:=Bool.eq_false_iff.mpr c104;subst c104;have H':=aM H;clear H;have M6:=trivial
  all_goals
   case _=>
    obtain ⟨hcz201_0,hcz201_1,hcz201_2,hcz201_3,hcz201_4,hcz201_5,hcz201_6,hcz201_7⟩:=cel8 BK160.out;obtain ⟨hfz201_0,hfz201_1,hfz201_2,hfz201_3,hfz201_4,hfz201_5,hfz201_6,hfz201_7⟩:=frz8 BK160.out;go_wp2_with (first|((with_reducible refine gate_callee (f:=45) rfl ?_);refine goesA (some 5) Tryz.func45 #[.slice A0_2 l0_2.length c0_2] ?_;(with_reducible refine (schema_Check.calls _ _ _ _ _ _ ?side1 ?side2 ?side3 A103.out).mono ?_);(case side1=>exact Kd.C_below HR0_2.out (bwA));(case side2=>exact HC0_2.out);(case side3=>exact Tabs.below HT.out (bwA));rintro e w202 ⟨rfl,hb⟩;refine ⟨_,rfl,?_⟩;replace BK160:=aM (bkB BK160 hb);replace HB:=aM (below_step (bwA) hb);(try clear hb);apply stopA;(case other=>exact trivial)))
    case _=>
     first
      | clear M1
        obtain ⟨hcz203_0,hcz203_1,hcz203_2,hcz203_3,hcz203_4,hcz203_5,hcz203_6,hcz203_7⟩:=cel8 BK160.out;obtain ⟨hfz203_0,hfz203_1,hfz203_2,hfz203_3,hfz203_4,hfz203_5,hfz203_6,hfz203_7⟩:=frz8 BK160.out;go_wp2_with (first|(go_at_call 45;(with_reducible refine (schema_Check.calls _ _ _ _ _ _ ?side1 ?side2 ?side3 A105.out).mono ?_);(case side1=>exact Kd.C_below HR0_3.out (bwA));(case side2=>exact HC0_3.out);(case side3=>exact Tabs.below HT.out (bwA));rintro e w204 ⟨rfl,hb⟩;replace BK160:=aM (bkB BK160 hb);replace HB:=aM (below_step (bwA) hb);(try clear hb);apply stopA;(case other=>exact trivial)))
        case _=>
         first
          | clear M2
            obtain ⟨hcz205_0,hcz205_1,hcz205_2,hcz205_3,hcz205_4,hcz205_5,hcz205_6,hcz205_7⟩:=cel8 BK160.out;obtain ⟨hfz205_0,hfz205_1,hfz205_2,hfz205_3,hfz205_4,hfz205_5,hfz205_6,hfz205_7⟩:=frz8 BK160.out;go_wp2_with (first|(go_at_call 46;(with_reducible refine (forest_IsID.calls _ _ _ _ _ A107.out).mono ?_);rintro e w206 ⟨rfl,hb⟩;replace BK160:=aM (bkB BK160 hb);replace HB:=aM (below_step (bwA) hb);(try clear hb);apply stopA;(case other=>exact trivial)))
            case _=>
             first
              | clear M3
                obtain ⟨hcz207_0,hcz207_1,hcz207_2,hcz207_3,hcz207_4,hcz207_5,hcz207_6,hcz207_7⟩:=cel8 BK160.out;obtain ⟨hfz207_0,hfz207_1,hfz207_2,hfz207_3,hfz207_4,hfz207_5,hfz207_6,hfz207_7⟩:=frz8 BK160.out;try go_wp2_with (first|(go_at_call 79;(with_reducible refine (forest_chain.calls _ _ _ _ _ _ _ ?side1 ?side2 ?side3 A109.out).mono ?_);(case side1=>exact Kd.C_below HR0_4.out (bwA));(case side2=>exact HC0_4.out);(case side3=>exact Tabs.below HT.out (bwA));rintro e w208 ⟨rfl,hb⟩;replace BK160:=aM (bkB BK160 hb);replace HB:=aM (below_step (bwA) hb);(try clear hb)))
                go_meet
                case rel=>exact ⟨_,(!t164),(endS),H',⟨by first|omega|exact Nat.le_refl _⟩,⟨blkZ⟩,⟨bwA⟩⟩
              | clear M4
                (try go_wp2_with (fail))
                go_meet
                case rel=>exact ⟨_,(true),(endS),H',⟨by first|omega|exact Nat.le_refl _⟩,⟨blkZ⟩,⟨bwA⟩⟩
          | clear M5
            (try go_wp2_with (fail))
            go_meet
            case rel=>exact ⟨_,(true),(endS),H',⟨by first|omega|exact Nat.le_refl _⟩,⟨blkZ⟩,⟨bwA⟩⟩
      | clear M6
        (try go_wp2_with (fail))
        go_meet
        case rel=>exact ⟨_,(true),(endS),H',⟨by first|omega|exact Nat.le_refl _⟩,⟨blkZ⟩,⟨bwA⟩⟩
 case rest=>
  clear HC101;(try clear c1);(try clear p2);(try clear c3);(try clear c4);(try clear c10);(try clear c36);(try clear c45);(try clear hcz201_0);(try clear hcz201_1);(try clear hcz201_2);(try clear hcz201_3);(try clear hcz201_4);(try clear hcz201_5);(try clear hcz201_6);(try clear hcz201_7);(try clear hcz203_0);(try clear hcz203_1);(try clear hcz203_2);(try clear hcz203_3);(try clear hcz203_4);(try clear hcz203_5);(try clear hcz203_6);(try clear hcz203_7);(try clear hcz205_0);(try clear hcz205_1);(try clear hcz205_2);(try clear hcz205_3);(try clear hcz205_4);(try clear hcz205_5);(try clear hcz205_6);(try clear hcz205_7);(try clear hcz207_0);(try clear hcz207_1);(try clear hcz207_2);(try clear hcz207_3);(try clear hcz207_4);(try clear hcz207_5);(try clear hcz207_6);(try clear hcz207_7);(try clear hfz201_0);(try clear hfz201_1);(try clear hfz201_2);(try clear hfz201_3);(try clear hfz201_4);(try clear hfz201_5);(try clear hfz201_6);(try clear hfz201_7);(try clear hfz203_0);(try clear hfz203_1);(try clear hfz203_2);(try clear hfz203_3);(try clear hfz203_4);(try clear hfz203_5);(try clear hfz203_6);(try clear hfz203_7);(try clear hfz205_0);(try clear hfz205_1);(try clear hfz205_2);(try clear hfz205_3);(try clear hfz205_4);(try clear hfz205_5);(try clear hfz205_6);(try clear hfz205_7);(try clear hfz207_0);(try clear hfz207_1);(try clear hfz207_2);(try clear hfz207_3);(try clear hfz207_4);(try clear hfz207_5);(try clear hfz207_6);(try clear hfz207_7);obtain ⟨kq,x26_100,rfl,HA,HJ100,BK160,HB⟩:=hcut
  cases kq with
  | zero=>exact absurd HA.out (by simp [forest_Check.j0])
  | succ kj100=>
   have H:=HA.out;clear HA;simp only [forest_Check.j0] at H;revert H;refine itR ?L15p ?L15n
   case' L15p=>
    intro c103 H;subst c103;obtain rfl:=sI H;go_wp2;go_ret;exact ⟨endA,bwA⟩
   case' L15n=>
    intro c103 H;replace c103:=Bool.eq_false_iff.mpr c103;subst c103;revert H;refine itQ ?L16p ?L16n
    case' L16p=>
     rintro ⟨c104b0,c104b1⟩ H;revert H;refine itQ ?L17p ?L17n
     case' L17p=>
      rintro ⟨c105b0,c105b1⟩ H;replace H:=bnA H;obtain ⟨t165,A106,H⟩:=H;obtain rfl:=sI H;have M10:=trivial
     case' L17n=>
      rintro ⟨c105b0,c105b1⟩ c105 H;obtain rfl:=sI H;have M11:=trivial
    case' L16n=>
     rintro ⟨c104b0,c104b1⟩ c104 H;replace H:=itN H;obtain ⟨c105,H⟩:=H;have c105b0:=dT c105;have c105b1:decide (1<l0_4.length)=true:=dT (by omega);clear c105;revert H;refine itQ ?L18p ?L18n
     case' L18p=>
      rintro ⟨c106b0,c106b1⟩ H;replace H:=bnA H;obtain ⟨t167,A107,H⟩:=H;obtain rfl:=sI H;have M12:=trivial;have M13:=trivial
     case' L18n=>
      rintro ⟨c106b0,c106b1⟩ c106 H;obtain rfl:=sI H;have M12:=trivial;have M14:=trivial
   all_goals
    case _=>
     obtain ⟨hcz201_0,hcz201_1,hcz201_2,hcz201_3,hcz201_4,hcz201_5,hcz201_6,hcz201_7⟩:=cel8 BK160.out;obtain ⟨hfz201_0,hfz201_1,hfz201_2,hfz201_3,hfz201_4,hfz201_5,hfz201_6,hfz201_7⟩:=frz8 BK160.out
     first
      | clear M10
        (try go_wp2_with (first|(go_at_call 64;(with_reducible refine (api_Field_64.calls _ _ _ _ _ _ _ _ _ ?side1 ?side2 ?side3 ?side4 A106.out).mono ?_);(case side1=>exact Kd.C_below HR0_2.out (bwA));(case side2=>exact HC0_2.out);(case side3=>exact Kd.C_below HR0_3.out (bwA));(case side4=>exact HC0_3.out);rintro e w' ⟨rfl,⟨nd,rfl⟩⟩)));go_ret;exact ⟨endA,bwA⟩
      | clear M11
        go_wp2;go_ret;exact ⟨endA,bwA⟩
      | clear M12
        (try go_wp2);replace BK160:=aM (blk_drew BK160.out);replace HB:=aM (below_drew1 HB.out);have p166:0≤(1:Int):=(by omega);have q166:1<(l0_4.length:Int):=odA;obtain ⟨ad166,e166,hx166_0⟩:=Kd.at_string HR0_4.out 1 p166 q166;have hw166_0:=hx166_0
        (try rw [show ((1:Int)).toNat=1 from rfl] at hw166_0)
        (try rw [show 1 * 1=1 from rfl] at hw166_0)
        (try simp only [Nat.reduceMul,Nat.reduceEqDiff,Go.Addr.add,↓reduceIte] at hw166_0)
        cases e166
        (try simp only [show (1:Int).toNat=1 from rfl,Nat.reduceMul,Nat.reduceEqDiff,Go.Addr.add,↓reduceIte] at hx166_0)
        have qi166:(1<l0_4.length)=True:=eq_true (by omega)
        (try rw [show ((1:Int)).toNat=1 from rfl] at hx166_0)
        replace hx166_0:=crA hx166_0;replace p166:=eq_true p166;replace q166:=eq_true q166;refine start_ (n:=15) (S:=fun w'=>w'.cell? ⟨gb160,0,none⟩=some (.string a0_0)∧w'.cell? ⟨gb160,1,none⟩=some (.string a0_1)∧w'.cell? ⟨gb160,2,none⟩=some (.slice A0_2 l0_2.length c0_2)∧w'.cell? ⟨gb160,3,none⟩=some (.slice A0_3 l0_3.length c0_3)∧w'.cell? ⟨gb160,4,none⟩=some (.slice (some ad166) l0_4.length c0_4)∧w'.cell? ⟨gb160,5,none⟩=some (.int .i64 a0_5)∧w'.cell? ⟨gb160,6,none⟩=some (.int .i64 a0_6)∧w'.cell? ⟨gb160,7,none⟩=some (.int .i64 a0_7)∧w'.cell? ⟨ad166.block,ad166.off+1,none⟩=some (.string (rdOf ByteArray.empty l0_4 1))) (ds:=[]) (mkB 15 0) (by kernel_rfl) rfl rfl ⟨(blk_cell BK160.out 0).trans rfl,(blk_cell BK160.out 1).trans rfl,(blk_cell BK160.out 2).trans rfl,(blk_cell BK160.out 3).trans rfl,(blk_cell BK160.out 4).trans rfl,(blk_cell BK160.out 5).trans rfl,(blk_cell BK160.out 6).trans rfl,(blk_cell BK160.out 7).trans rfl,crA hw166_0⟩ (fun hHeld=>?_);refine with_tabW forest_Check.tab5 forest_Check.bits5 (fun HT_ HW_=>?_)
        generalize wc.drew=w202 at BK160 HB hx166_0 hHeld ⊢
        refine pureA 0 (some 41) (mkB 15 1) ?_;refine pureA 2 (some 43) (mkB 15 5) ?_;refine takeA 1 (some 42) (mkB 15 7) ?_ rfl (Or.inl ⟨by rfl,by rintro w' ⟨s0,s1,s2,s3,s4,s5,s6,s7,s8⟩;go_simp;with_reducible rfl⟩);refine takeA 3 (some 44) (mkB 15 15) ?_ rfl (Or.inl ⟨by rfl,by rintro w' ⟨s0,s1,s2,s3,s4,s5,s6,s7,s8⟩;go_simp;with_reducible rfl⟩);refine pureA 4 (some 45) (mkB 15 31) ?_;refine takeA 5 (some 46) (mkB 15 63) ?_ rfl (Or.inl ⟨by rfl,by rintro w' ⟨s0,s1,s2,s3,s4,s5,s6,s7,s8⟩;go_simp;with_reducible rfl⟩);refine pureA 6 (some 47) (mkB 15 127) ?_;refine pureA 7 (some 48) (mkB 15 255) ?_
        first
         | clear M13
           refine pureA 8 (some 49) (mkB 15 511) ?_;refine pureA 10 (some 51) (mkB 15 1535) ?_;refine takeA 9 (some 50) (mkB 15 2047) ?_ rfl (Or.inl ⟨by rfl,by rintro w' ⟨s0,s1,s2,s3,s4,s5,s6,s7,s8⟩;go_simp;with_reducible rfl⟩);refine takeA 11 (some 52) (mkB 15 4095) ?_ rfl (Or.inl ⟨by rfl,by rintro w' ⟨s0,s1,s2,s3,s4,s5,s6,s7,s8⟩;go_simp;with_reducible rfl⟩);refine oneA 12 (some 53) (mkB 15 8191) (fun K hK=>?_);refine goesS Tryz.func80 #[.slice A0_2 l0_2.length c0_2,.slice A0_3 l0_3.length c0_3] ?_
           with_reducible refine (schema_Within.calls _ _ _ _ _ _ _ _ ?side1 ?side2 ?side3 ?side4 ?side5 A107.out).mono ?_
           (case side1=>exact Kd.C_below HR0_2.out (bwA))
           (case side2=>exact HC0_2.out)
           (case side3=>exact Kd.C_below HR0_3.out (bwA))
           (case side4=>exact HC0_3.out)
           (case side5=>exact Tabs.below HT.out (bwA))
           rintro e w203 ⟨rfl,hb⟩;refine ⟨_,rfl,?_⟩;replace BK160:=aM (bkB BK160 hb);replace HB:=aM (below_step (bwA) hb)
           (try clear hb)
           refine hK.out _ _ ⟨(blk_cell BK160.out 0).trans rfl,(blk_cell BK160.out 1).trans rfl,(blk_cell BK160.out 2).trans rfl,(blk_cell BK160.out 3).trans rfl,(blk_cell BK160.out 4).trans rfl,(blk_cell BK160.out 5).trans rfl,(blk_cell BK160.out 6).trans rfl,(blk_cell BK160.out 7).trans rfl,crA hw166_0⟩ (fun hHeld=>?_);clear hK K;refine normA ?_;refine pureA 13 (some 54) (mkB 15 16383) ?_;refine pureA 14 (some 2) (mkB 15 32767) ?_;refine done_ (done_of HT_.out (by kernel_rfl)) ?_;(try go_wp2);go_ret;exact ⟨endA,bwA⟩
         | clear M14
           refine pureU 8 (some 49) (mkB 15 511) ?_;refine pureU 9 (some 50) (mkB 15 1023) ?_;refine pureU 10 (some 51) (mkB 15 2047) ?_;refine pureU 11 (some 52) (mkB 15 4095) ?_;refine pureU 12 (some 53) (mkB 15 8191) ?_;refine pureA 13 (some 54) (mkB 15 16383) ?_;refine pureA 14 (some 2) (mkB 15 32767) ?_;refine done_ (done_of HT_.out (by kernel_rfl)) ?_;(try go_wp2);go_ret;exact ⟨endA,bwA⟩
def RowE {α:Type} (T k:Nat) (enc:α→List Value) (w:World) (g cap:Nat) (l:List α):Prop:=
 ∃ cur:Array Value,w.heap[g]? = some (.cells cur T (0,0))∧l.length≤cap∧cap≤maxLen∧cur.size=cap * k∧∀ (i c:Nat) (x:α) (u:Value),l[i]? = some x→(enc x)[c]? = some u→cur[i * k+c]? = some u
def stA:Array Value→Nat→List Value→Array Value
 | cur,_,[]=>cur
 | cur,o,v :: vs=>stA (cur.setIfInBounds o v) (o+1) vs
def stC (g:Nat):World→Nat→List Value→World
 | w,_,[]=>w
 | w,o,v :: vs=>stC g (w.setCell ⟨g,o,none⟩ v) (o+1) vs
theorem stA_size:∀ (vs:List Value) (cur:Array Value) (o:Nat),(stA cur o vs).size=cur.size
 | [],cur,o=>rfl
 | v :: vs,cur,o=>by rw [stA,stA_size vs,Array.size_setIfInBounds]
theorem stA_get:∀ (vs:List Value) (cur:Array Value) (o j:Nat),o+vs.length≤cur.size→(stA cur o vs)[j]? = if o≤j∧j<o+vs.length then vs[j-o]? else cur[j]?
 | [],cur,o,j,h=>by rw [stA,if_neg (fun hh=>by have:=hh.2;simp only [List.length_nil] at this;omega)]
 | v :: vs,cur,o,j,h=>by
  rw [List.length_cons] at h;rw [stA,stA_get vs _ _ j (by rw [Array.size_setIfInBounds];omega),List.length_cons]
  by_cases h1:o+1≤j∧j<o+1+vs.length
  ·rw [if_pos h1,if_pos (by omega),show j-o=(j-(o+1))+1 by omega,List.getElem?_cons_succ]
  ·rw [if_neg h1,Array.getElem?_setIfInBounds]
   by_cases h2:o=j
   ·subst h2
    rw [if_pos rfl,if_pos (by omega),if_pos (by omega),Nat.sub_self,List.getElem?_cons_zero]
   ·rw [if_neg h2,if_neg (by omega)]
theorem stC_heap {g T:Nat}:∀ (vs:List Value) (w:World) (cur:Array Value) (o:Nat),w.heap[g]? = some (.cells cur T (0,0))→(stC g w o vs).heap[g]? = some (.cells (stA cur o vs) T (0,0))
 | [],w,cur,o,h=>h
 | v :: vs,w,cur,o,h=>stC_heap vs _ _ _ (blk_put h o v rfl)
theorem stC_below {g B:Nat}:∀ (vs:List Value) (w W:World) (o:Nat),Below B w W→B≤g→Below B w (stC g W o vs)
 | [],w,W,o,h,hg=>h
 | v :: vs,w,W,o,h,hg=>stC_below vs w _ _ (h.setCell (p:=⟨g,o,none⟩) hg v) hg
section
variable {α:Type} {T k:Nat} {enc:α→List Value} {w w':World} {g cap:Nat} {l:List α}
theorem RowE.cell (h:RowE T k enc w g cap l) {i c:Nat} {x:α} {u:Value} (hx:l[i]? = some x) (hc:(enc x)[c]? = some u):w.cell? ⟨g,i * k+c,none⟩=some u:=by
 obtain ⟨cur,h1,_,_,_,h5⟩:=h;exact (blk_cell h1 _).trans (h5 i c x u hx hc)
theorem RowE.frozen (h:RowE T k enc w g cap l) (j:Nat):w.frozen? ⟨g,j,none⟩=false:=by
 obtain ⟨cur,h1,_⟩:=h;exact blk_frozen h1 j
theorem RowE.below (h:RowE T k enc w g cap l) (hb:Below w.heap.size w w'):RowE T k enc w' g cap l:=by
 obtain ⟨cur,h1,h2⟩:=h;exact ⟨cur,blk_below h1 hb,h2⟩
theorem RowE.lt (h:RowE T k enc w g cap l):g<w.heap.size:=by
 obtain ⟨cur,h1,_⟩:=h;exact blk_lt h1
theorem RowE.len (h:RowE T k enc w g cap l):l.length≤cap∧cap≤maxLen:=by
 obtain ⟨cur,_,h2,h3,_⟩:=h;exact ⟨h2,h3⟩
theorem RowE.put (h:RowE T k enc w g cap l) (hk:∀ x,(enc x).length=k) (i:Nat) (hi:i<l.length) (y:α):RowE T k enc (stC g w (i * k) (enc y)) g cap (l.set i y):=by
 obtain ⟨cur,h1,h2,h3,h4,h5⟩:=h
 have hroom:i * k+(enc y).length≤cur.size:=by
  rw [hk,h4,show i * k+k=(i+1) * k by rw [Nat.add_mul,Nat.one_mul]];exact Nat.mul_le_mul_right k (by omega)
 refine ⟨stA cur (i * k) (enc y),stC_heap _ _ _ _ h1,by rw [List.length_set];exact h2,h3,by rw [stA_size];exact h4,fun j c x u hj hc=>?_⟩;have hcl:c<k:=by rw [← hk x];exact (List.getElem?_eq_some_iff.1 hc).1
 rw [stA_get _ _ _ _ hroom,hk];rw [List.getElem?_set] at hj
 by_cases e:i=j
 ·subst e
  rw [if_pos rfl,if_pos hi] at hj;obtain rfl:=sI hj;rw [if_pos (by omega),Nat.add_sub_cancel_left];exact hc
 ·rw [if_neg e] at hj
  rw [if_neg (fun hh=>e ?_)]
  ·exact h5 j c x u hj hc
  ·have h6:i * k<(j+1) * k:=by rw [Nat.add_mul,Nat.one_mul];omega
   have h7:j * k<(i+1) * k:=by rw [Nat.add_mul,Nat.one_mul];omega
   have h8:=Nat.lt_of_mul_lt_mul_right h6;have h9:=Nat.lt_of_mul_lt_mul_right h7
   omega
end
def swpL {α:Type} (l:List α) (i j:Nat):List α:=match l[i]?,l[j]? with
 | some x,some y=>(l.set i y).set j x
 | _,_=>l
def swapRL {α:Type}:Nat→List α→Nat→Nat→List α
 | 0,l,_,_=>l
 | n+1,l,a,b=>swapRL n (swpL l a b) (a+1) (b+1)
theorem swpL_len {α:Type} (l:List α) (i j:Nat):(swpL l i j).length=l.length:=by
 unfold swpL
 split
 ·rw [List.length_set,List.length_set]
 ·rfl
theorem swapRL_len {α:Type}:∀ (n:Nat) (l:List α) (a b:Nat),(swapRL n l a b).length=l.length
 | 0,l,a,b=>rfl
 | n+1,l,a,b=>by rw [swapRL,swapRL_len n,swpL_len]
theorem swpL_at {α:Type} {l:List α} {i j:Nat} {x y:α} (hx:l[i]? = some x) (hy:l[j]? = some y):swpL l i j=(l.set i y).set j x:=by
 unfold swpL;rw [hx,hy]
theorem idx_add (a i len:Nat) (h:a+i<len) (hl:len≤maxLen):∃ j:Int,wrap64 ((a:Int)+(i:Int))=j∧IntKind.i64.wrap ((a:Int)+(i:Int))=j∧(0≤j)=True∧(j<(len:Int))=True∧j.toNat=a+i∧j=((a+i:Nat):Int):=by
 have e:wrap64 ((a:Int)+(i:Int))=((a+i:Nat):Int):=by unfold maxLen at hl;unfold wrap64;omega
 exact ⟨((a+i:Nat):Int),e,(i64_w _).trans e,eq_true (Int.natCast_nonneg _),eq_true (Int.ofNat_lt.2 h),Int.toNat_natCast _,rfl⟩
theorem w_add (a i len:Nat) (h:a+i≤len) (hl:len≤maxLen):wrap64 ((a:Int)+(i:Int))=((a+i:Nat):Int)∧IntKind.i64.wrap ((a:Int)+(i:Int))=((a+i:Nat):Int):=by
 have e:wrap64 ((a:Int)+(i:Int))=((a+i:Nat):Int):=by unfold maxLen at hl;unfold wrap64;omega
 exact ⟨e,(i64_w _).trans e⟩
theorem w_one (i len:Nat) (h:i+1≤len) (hl:len≤maxLen):wrap64 ((i:Int)+1)=((i+1:Nat):Int):=by unfold maxLen at hl;unfold wrap64;omega
theorem w_dec (j len:Nat) (h:1≤j) (hm:j≤len) (hl:len≤maxLen):wrap64 ((j:Int)-1)=((j-1:Nat):Int)∧IntKind.i64.wrap ((j:Int)-1)=((j-1:Nat):Int):=by
 have e:wrap64 ((j:Int)-1)=((j-1:Nat):Int):=by unfold maxLen at hl;unfold wrap64;omega
 exact ⟨e,(i64_w _).trans e⟩
def encF (x:S86):List Value:=[.string x.f0,.int .i64 x.f1,.bool x.f2]
theorem encF_len (x:S86):(encF x).length=3:=rfl
theorem addr0 (g n:Nat):(⟨g,0,none⟩:Addr).add n=⟨g,n,none⟩:=by
 unfold Addr.add
 split
 ·rename_i h;rw [h]
 ·simp
theorem cellF {ad:Addr} {g cap:Nat} {W:World} {l2:List S86} (had:ad=⟨g,0,none⟩) (hW:RowE 86 3 encF W g cap l2) {q:Nat} {z:S86} (hz:l2[q]? = some z):W.cell? (ad.add (q * 3))=some (.string z.f0)∧W.cell? ⟨(ad.add (q * 3)).block,(ad.add (q * 3)).off+1,none⟩=some (.int .i64 z.f1)∧W.cell? ⟨(ad.add (q * 3)).block,(ad.add (q * 3)).off+2,none⟩=some (.bool z.f2):=by
 subst had;rw [addr0];exact ⟨hW.cell (c:=0) hz rfl,hW.cell (c:=1) hz rfl,hW.cell (c:=2) hz rfl⟩
theorem frozF {ad:Addr} {g cap:Nat} {W:World} {l2:List S86} (had:ad=⟨g,0,none⟩) (hW:RowE 86 3 encF W g cap l2) (q:Nat):W.frozen? (ad.add (q * 3))=false∧W.frozen? ⟨(ad.add (q * 3)).block,(ad.add (q * 3)).off+1,none⟩=false∧W.frozen? ⟨(ad.add (q * 3)).block,(ad.add (q * 3)).off+2,none⟩=false:=by
 subst had;rw [addr0];exact ⟨hW.frozen _,hW.frozen _,hW.frozen _⟩
theorem storF {ad:Addr} {g cap:Nat} {W:World} {l2:List S86} (had:ad=⟨g,0,none⟩) (hW:RowE 86 3 encF W g cap l2) {q:Nat} {y:S86} (hz:l2[q]? = some y) (z:S86):
  W.cell? (ad.add (q * 3))=some (.string y.f0)∧W.frozen? (ad.add (q * 3))=false ∧
  (W.setCell (ad.add (q * 3)) (.string z.f0)).cell? ⟨(ad.add (q * 3)).block,(ad.add (q * 3)).off+1,none⟩=some (.int .i64 y.f1)∧(W.setCell (ad.add (q * 3)) (.string z.f0)).frozen? ⟨(ad.add (q * 3)).block,(ad.add (q * 3)).off+1,none⟩=false ∧
  ((W.setCell (ad.add (q * 3)) (.string z.f0)).setCell ⟨(ad.add (q * 3)).block,(ad.add (q * 3)).off+1,none⟩ (.int .i64 z.f1)).cell? ⟨(ad.add (q * 3)).block,(ad.add (q * 3)).off+2,none⟩=some (.bool y.f2)∧((W.setCell (ad.add (q * 3)) (.string z.f0)).setCell ⟨(ad.add (q * 3)).block,(ad.add (q * 3)).off+1,none⟩ (.int .i64 z.f1)).frozen? ⟨(ad.add (q * 3)).block,(ad.add (q * 3)).off+2,none⟩=false:=by
 subst had;rw [addr0];obtain ⟨cur,h1,h2,h3,h4,h5⟩:=hW;have hq:q<l2.length:=(List.getElem?_eq_some_iff.1 hz).1;have hroom:q * 3+3≤cur.size:=by omega
 have k1:=stC_heap [.string z.f0] W cur (q * 3) h1;have k2:=stC_heap [.string z.f0,.int .i64 z.f1] W cur (q * 3) h1;refine ⟨(blk_cell h1 _).trans (h5 q 0 y _ hz rfl),blk_frozen h1 _,(blk_cell k1 _).trans ?_,blk_frozen k1 _,(blk_cell k2 _).trans ?_,blk_frozen k2 _⟩
 ·rw [stA_get _ _ _ _ (by show q * 3+1≤_;omega),if_neg (by show ¬ (q * 3≤q * 3+1∧q * 3+1<q * 3+1);omega)]
  exact h5 q 1 y _ hz rfl
 ·rw [stA_get _ _ _ _ (by show q * 3+2≤_;omega),if_neg (by show ¬ (q * 3≤q * 3+2∧q * 3+2<q * 3+2);omega)]
  exact h5 q 2 y _ hz rfl
theorem putF {ad:Addr} {g cap B:Nat} {w0 W:World} {l2:List S86} (had:ad=⟨g,0,none⟩) (hW:RowE 86 3 encF W g cap l2) (hB:Below B w0 W) (hg:B≤g) (z:S86) {q:Nat} (hq:q<l2.length):
  RowE 86 3 encF (((W.setCell (ad.add (q * 3)) (.string z.f0)).setCell ⟨(ad.add (q * 3)).block,(ad.add (q * 3)).off+1,none⟩ (.int .i64 z.f1)).setCell ⟨(ad.add (q * 3)).block,(ad.add (q * 3)).off+2,none⟩ (.bool z.f2)) g cap (l2.set q z) ∧
  Below B w0 (((W.setCell (ad.add (q * 3)) (.string z.f0)).setCell ⟨(ad.add (q * 3)).block,(ad.add (q * 3)).off+1,none⟩ (.int .i64 z.f1)).setCell ⟨(ad.add (q * 3)).block,(ad.add (q * 3)).off+2,none⟩ (.bool z.f2)):=by
 subst had;rw [addr0];exact ⟨hW.put encF_len _ hq z,stC_below (encF z) w0 W _ hB hg⟩
def swapR.T3:Bool × List (List Nat × List Nat):=(true,[([],[]),([],[]),([],[]),([1,2],[1,2]),([],[]),([],[]),([],[]),([5,6],[5,6]),([],[]),([],[]),([],[]),([9,10],[9,10]),([8,11],[8,11]),([12],[12]),([],[]),([],[]),([],[]),([15,16],[15,16]),([14,17],[14,17]),([18],[18]),([0,3,0,1,2,3,8,9,10,11,12,13,19],[0,3]),([20,13,0,1,2,3,8,9,10,11,12,13,19],[13,20]),([4,7,0,1,2,3,4,5,6,7,8,9,10,11,12,13,14,15,16,17,18,19,20,21],[4,7]),([22,19,21,0,1,2,3,4,5,6,7,8,9,10,11,12,13,14,15,16,17,18,19,20,21],[19,22])])
def bitsOf (T:List (List Nat × List Nat)):List Nat:=T.foldl (fun B r=>B++[r.1.foldl (fun b n=>b ||| (2 ^ n ||| B.getD n 0)) 0]) []
theorem swapR.tab3:rtab .any (opsOf Tryz.f183 3)=swapR.T3:=by kernel_rfl
theorem swapR.bits3:waitsOk swapR.T3.2 (bitsOf swapR.T3.2)=true:=by kernel_rfl
theorem swapR.calls (B g cap:Nat) (l:List S86) (a b n:Nat) (F:Value) (w:World) (hr:RowE 86 3 encF w g cap l) (hg:B≤g) (ha:a+n≤l.length) (hb:b+n≤l.length):
  Calls Tryz.prog 183 #[.slice (some ⟨g,0,none⟩) l.length cap,.int .i64 a,.int .i64 b,.int .i64 n,F] w fun e w'=>e=.returned (.tuple #[])∧RowE 86 3 encF w' g cap (swapRL n l a b)∧Below B w w':=by
 have hu:=Tryz.underlying86;obtain ⟨ad,had⟩:∃ ad:Addr,ad=⟨g,0,none⟩:=⟨_,rfl⟩;rw [← had];have HAD:=aM had;clear had;have HR0:=aM hr;have HG:=aM hg;have HL:=aM (And.intro ha (And.intro hb hr.len));clear hr hg ha hb;go_enter Tryz.func183,Tryz.ntmps183;go_wp2
 go_loopw [10] (fun v10 wr=>∃ (i:Nat) (l1:List S86),v10=.int .i64 i∧Hid (i≤n)∧Hid (l1.length=l.length)∧Hid (RowE 86 3 encF wr g cap l1)∧Hid (Below B w wr)∧Hid (swapRL (n-i) l1 (a+i) (b+i)=swapRL n l a b)) (fun v10 _=>n-(intOf v10).toNat)
 case atStart=>exact ⟨0,l,rfl,Lib.hid (Nat.zero_le _),Lib.hid rfl,Lib.hid HR0.out,Lib.hid (Below.refl _ _),Lib.hid rfl⟩
 case round=>
  obtain ⟨i,l1,rfl,HI,HL1,HR,HB,HS⟩:=hrel
  by_cases hlt:i<n
  ·have b1:decide ((i:Int)<(n:Int))=true:=dT (by omega)
   have b2:decide (i<n)=true:=dT hlt;have hi:=hlt;have HI2:=Lib.hid hlt;clear hlt hi;go_wp2;obtain ⟨ja,ea,ea2,pa,qa,na,hja⟩:=idx_add a i l.length (by have:=HL.out;have:=HI2.out;omega) (by have:=HL.out;omega);obtain ⟨jb,eb,eb2,pb,qb,nb,hjb⟩:=idx_add b i l.length (by have:=HL.out;have:=HI2.out;omega) (by have:=HL.out;omega);obtain ⟨x,hx⟩:∃ x,l1[a+i]? = some x:=⟨_,List.getElem?_eq_getElem (by have:=HL.out;have:=HI2.out;have:=HL1.out;clear ea ea2 eb eb2;omega)⟩;obtain ⟨y,hy⟩:∃ y,l1[b+i]? = some y:=⟨_,List.getElem?_eq_getElem (by have:=HL.out;have:=HI2.out;have:=HL1.out;clear ea ea2 eb eb2;omega)⟩;clear hja hjb;have HRd:=aM (HR.out.below (w':=wr.drew) (below_drew (Below.refl _ _)));have HBd:=aM (below_drew HB.out);obtain ⟨ax0,ax1,ax2⟩:=cellF HAD.out HRd.out hx;obtain ⟨ay0,ay1,ay2⟩:=cellF HAD.out HRd.out hy;refine start_ (n:=24) (S:=fun w'=>w'.cell? (ad.add ((a+i) * 3))=some (.string x.f0)∧w'.cell? ⟨(ad.add ((a+i) * 3)).block,(ad.add ((a+i) * 3)).off+1,none⟩=some (.int .i64 x.f1)∧w'.cell? ⟨(ad.add ((a+i) * 3)).block,(ad.add ((a+i) * 3)).off+2,none⟩=some (.bool x.f2)∧w'.cell? (ad.add ((b+i) * 3))=some (.string y.f0)∧w'.cell? ⟨(ad.add ((b+i) * 3)).block,(ad.add ((b+i) * 3)).off+1,none⟩=some (.int .i64 y.f1)∧w'.cell? ⟨(ad.add ((b+i) * 3)).block,(ad.add ((b+i) * 3)).off+2,none⟩=some (.bool y.f2)) (ds:=[21,23]) (mkB 24 0) (by kernel_rfl) rfl rfl ⟨ax0,ax1,ax2,ay0,ay1,ay2⟩ (fun hHeld=>?_);refine with_tabW swapR.tab3 swapR.bits3 (fun HT_ HW_=>?_)
   generalize wr.drew=w6 at HRd HBd hHeld ax0 ax1 ax2 ay0 ay1 ay2 ⊢
   refine pureA 0 (some 16) (mkB 24 1) ?_;refine pureA 1 (some 17) (mkB 24 3) ?_;refine pureA 2 (some 18) (mkB 24 7) ?_;refine pureA 3 (some 19) (mkB 24 15) ?_;refine pureA 4 (some 20) (mkB 24 31) ?_;refine pureA 5 (some 21) (mkB 24 63) ?_;refine pureA 6 (some 22) (mkB 24 127) ?_;refine pureA 7 (some 23) (mkB 24 255) ?_;refine pureA 8 (some 24) (mkB 24 511) ?_;refine pureA 9 (some 25) (mkB 24 1023) ?_;refine pureA 10 (some 26) (mkB 24 2047) ?_;refine pureA 11 (some 27) (mkB 24 4095) ?_;refine pureA 12 (some 28) (mkB 24 8191) ?_;refine takeA 13 (some 29) (mkB 24 16383) ?_ rfl (Or.inl ⟨by rfl,by rintro w' ⟨s0,s1,s2,s3,s4,s5⟩;go_simp;with_reducible rfl⟩);refine pureA 14 (some 30) (mkB 24 32767) ?_;refine pureA 15 (some 31) (mkB 24 65535) ?_;refine pureA 16 (some 32) (mkB 24 131071) ?_;refine pureA 17 (some 33) (mkB 24 262143) ?_;refine pureA 18 (some 34) (mkB 24 524287) ?_;refine takeA 19 (some 35) (mkB 24 1048575) ?_ rfl (Or.inl ⟨by rfl,by rintro w' ⟨s0,s1,s2,s3,s4,s5⟩;go_simp;with_reducible rfl⟩);refine pureA 20 (some 36) (mkB 24 2097151) ?_;obtain ⟨ax0,fx0,ax1,fx1,ax2,fx2⟩:=storF HAD.out HRd.out hx y;refine last_ (i:=21) (N:=none) (mkB 24 4194303) rfl rfl (one_of HT_.out (by kernel_rfl)) (by decide) (fun K hK=>?_);refine skip_ (w1:=?_) (by rfl) rfl ?_ ?_;rotate_left
   ·go_simp
    rfl
   refine hK.out _ _ ?_;clear hK K;have hlen:a+i<l1.length:=(List.getElem?_eq_some_iff.1 hx).1;have hlen2:b+i<l1.length:=(List.getElem?_eq_some_iff.1 hy).1;obtain ⟨HR7,HB7⟩:=putF HAD.out HRd.out HBd.out HG.out y hlen;clear ax0 ax1 ax2 ay0 ay1 ay2 fx0 fx1 fx2 hHeld HRd HBd
   generalize (((w6.setCell (ad.add ((a+i) * 3)) (.string y.f0)).setCell ⟨(ad.add ((a+i) * 3)).block,(ad.add ((a+i) * 3)).off+1,none⟩ (.int .i64 y.f1)).setCell ⟨(ad.add ((a+i) * 3)).block,(ad.add ((a+i) * 3)).off+2,none⟩ (.bool y.f2))=w7 at HR7 HB7 ⊢
   obtain ⟨z,hz⟩:∃ z,(l1.set (a+i) y)[b+i]? = some z:=⟨_,List.getElem?_eq_getElem (by rw [List.length_set];exact hlen2)⟩;obtain ⟨cz0,fz0,cz1,fz1,cz2,fz2⟩:=storF HAD.out HR7 hz x;refine pureA 22 (some 37) (mkB 24 8388607) ?_;refine last_ (i:=23) (N:=none) (mkB 24 16777215) rfl rfl (one_of HT_.out (by kernel_rfl)) (by decide) (fun K hK=>?_);refine skip_ (w1:=?_) (by rfl) rfl ?_ ?_;rotate_left
   ·go_simp
    rfl
   refine hK.out _ _ ?_;clear hK K;refine done_ (done_of HT_.out (by kernel_rfl)) ?_;obtain ⟨HR8,HB8⟩:=putF HAD.out HR7 HB7 HG.out x (by rw [List.length_set];exact hlen2);clear cz0 cz1 cz2 fz0 fz1 fz2 HR7 HB7
   generalize (((w7.setCell (ad.add ((b+i) * 3)) (.string x.f0)).setCell ⟨(ad.add ((b+i) * 3)).block,(ad.add ((b+i) * 3)).off+1,none⟩ (.int .i64 x.f1)).setCell ⟨(ad.add ((b+i) * 3)).block,(ad.add ((b+i) * 3)).off+2,none⟩ (.bool x.f2))=w8 at HR8 HB8 ⊢
   have wi:=w_one i l.length (by have:=HL.out;have:=HI2.out;clear ea ea2 eb eb2;omega) (by have:=HL.out;clear ea ea2 eb eb2;omega);go_wp2
   go_roundw
   case rel=>exact ⟨i+1,swpL l1 (a+i) (b+i),(by rw [wi]),Lib.hid (by have:=HI2.out;clear ea ea2 eb eb2;omega),Lib.hid (by rw [swpL_len];exact HL1.out),Lib.hid (by rw [swpL_at hx hy];exact HR8),Lib.hid HB8,Lib.hid (by
    have h1:=HS.out;have e:n-i=(n-(i+1))+1:=by have:=HI2.out;clear ea ea2 eb eb2;omega
    rw [e,swapRL] at h1
    exact h1)⟩
   case measure=>
    show n-(intOf (.int .i64 (wrap64 ((i:Int)+1)))).toNat<n-(intOf (.int .i64 (i:Int))).toNat
    rw [wi];simp only [intOf];have:=HI2.out;clear ea ea2 eb eb2 wi
    omega
  ·have b1:decide ((i:Int)<(n:Int))=false:=dF (by omega)
   have b2:decide (i<n)=false:=dF hlt;have hi:=HI.out;have e:n-i=0:=by omega
   have hs:=HS.out;rw [e,swapRL] at hs;clear hi e hlt;go_wp2
   go_end0
   exact ⟨rfl,by rw [← hs];exact HR.out,HB.out⟩
end Go.Proofs.YtpjjbaclphoilaaGreatDoor.A
