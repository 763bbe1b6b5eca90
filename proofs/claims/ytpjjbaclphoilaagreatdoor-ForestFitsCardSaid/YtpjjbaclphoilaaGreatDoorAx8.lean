import Derived.Test.YtpjjbaclphoilaaGreatDoorAx0
import Derived.Test.YtpjjbaclphoilaaGreatDoorAx3
import Derived.Test.YtpjjbaclphoilaaGreatDoorAx4
import Derived.Test.YtpjjbaclphoilaaGreatDoorAx5
import Derived.Test.YtpjjbaclphoilaaGreatDoorAx6
import Derived.Test.YtpjjbaclphoilaaGreatDoorAx7
namespace Go.Proofs.YtpjjbaclphoilaaGreatDoor.A
open Go.RowKit Go.Proofs.YtpjjbaclphoilaaGreatDoorW.PrintWords Go.Proofs.YtpjjbaclphoilaaGreatDoorW.PrintLast Go.Proofs.YtpjjbaclphoilaaGreatDoorW.PrintMore
attribute [local go_sem] max2_int min2_int max_two min_two max_three min_three max_four min_four   -- for this text's walks alone
set_option linter.unusedVariables false
set_option linter.unusedSimpArgs false
set_option maxHeartbeats 8000000
set_option maxRecDepth 100000
theorem flatC {w:World} {A:Option Addr} {n:Nat} {l:List S86} (h:Kd.C k86 w A n l):∀ ad,A=some ad→∀ (j:Nat) (u:Value),(l.flatMap encF)[j]? = some u→w.cell? (ad.add j)=some u:=by
 intro ad hA j u hj;have hjl:j<l.length * 3:=by rw [← flatF_len];exact (List.getElem?_eq_some_iff.1 hj).1
 have hn:l.length=n:=h.1;obtain ⟨ad',c,e,_,hK,hc⟩:=Kd.C_get h z86 ((j / 3:Nat):Int) (by omega) (by omega);obtain rfl:=k86_open hK;rw [hA] at e;obtain rfl:=sI e;rw [Int.toNat_natCast] at hc;have ej:j=j / 3 * 3+j % 3:=by omega
 rw [ej] at hj;have h2:=(flatF_get l (j / 3) (j % 3) u (by omega) (Nat.mod_lt _ (by decide))).1 hj;rw [ej];exact hc _ _ h2
theorem encF_one (x:S86):∀ u∈encF x,u.oneCell'=true:=by
 intro u hu;unfold encF at hu;simp only [List.mem_cons,List.mem_nil_iff,or_false] at hu
 rcases hu with rfl|rfl|rfl<;>rfl
theorem clone.calls (A:Option Addr) (c:Nat) (l:List S86) (w:World) (hC:Kd.C k86 w A l.length l) (hl:l.length<1000000):
  Calls Tryz.prog 49 #[.slice A l.length c] w fun e w'=>∃ v,e=.returned v∧w'.ownsRow w.heap.size 86 3 v l.length (l.flatMap encF)∧Below w.heap.size w w':=by
 obtain ⟨i0,hi,hz0,hz1,hz2⟩:=info_parts info86;have hu:=Tryz.underlying23;have q22:∀ (w:World) (a:Option Addr) (n c n' c':Nat),(binOp .eql 23 (.slice a n c) (.slice none n' c')).run Tryz.prog w=.ok (.bool a.isNone) w:=fun w a n c n' c'=>Lib.run_eql_slice_nil w _ _ a n c n' c' hu
 cases A with
 | none=>
  have hl0:l=[]:=by
   rcases Nat.eq_zero_or_pos l.length with h|h
   ·exact List.eq_nil_of_length_eq_zero h
   ·obtain ⟨b,off,e,_⟩:=Kd.C_addr hC h (by decide);cases e
  subst hl0;clear hC hl;go_enter Tryz.func49,Tryz.ntmps49;go_wp2;go_ret;exact ⟨_,rfl,⟨rfl,.inl ⟨rfl,rfl⟩⟩,Below.refl _ _⟩
 | some ad=>
  have HC:=aM (flatC hC ad rfl);have HL:=aM hl;clear hC hl;go_enter Tryz.func49,Tryz.ntmps49;go_wp2_with (at_builtin;refine wpList_append_own _ rfl _ _ 23 rfl w.heap.size 86 i0 _ 3 32 hu hi hz0 hz1 hz2 rfl (by decide) _ _ _ rfl (World.ownsRow_made w #[] 0 (Nat.le_refl _) (Nat.zero_le _) rfl) ad l.length c (l.flatMap encF) rfl ?qc1 ?qc2 ?qc3 ?qc4 ?qc5 ?qc6 ?_)
  case qc1=>exact flatF_len l
  case qc2=>intro j u hj;exact Lib.cell?_alloc_some _ (HC.out j u hj)
  case qc3=>intro u hu;obtain ⟨x,_,hx⟩:=List.mem_flatMap.1 hu;exact encF_one x u hx
  case qc4=>have:=HL.out;unfold maxLen;omega
  case qc5=>have:=HL.out;omega
  case qc6=>simp
  intro v' w1 hown hgrow hnil;go_wp2;go_ret;refine ⟨v',rfl,by simpa using hown,?_⟩;exact ((Below.refl _ w).alloc (Nat.le_refl _) _).grown hgrow (by simp) (by intro k hk;simp [Value.ownBlock] at hk;omega)
theorem flatF_drop:∀ (l:List S86) (j:Nat) (p:S86),l[j]? = some p→((l.flatMap encF).drop (j * 3)).take 3=encF p
 | [],j,p,h=>by simp at h
 | x :: xs,0,p,h=>by
  obtain rfl:=sI h;rw [List.flatMap_cons,Nat.zero_mul,List.drop_zero,List.take_append_of_le_length (by rw [encF_len];exact Nat.le_refl _),List.take_of_length_le (by rw [encF_len];exact Nat.le_refl _)]
 | x :: xs,j+1,p,h=>by
  rw [List.flatMap_cons,List.drop_append,List.drop_of_length_le (by rw [encF_len];omega),List.nil_append,encF_len,show (j+1) * 3-3=j * 3 by omega];exact flatF_drop xs j p h
theorem R_of_ownF {w:World} {base n:Nat} {v:Value} {l:List S86} (hn:l.length=n) (h:w.ownsRow base 86 3 v n (l.flatMap encF)):Kd.R k86 86 w base (fun _=>True) v l:=
 ⟨fun _ _=>trivial,_,by rw [hn];exact h,flatF_len l,fun j p hj=>by
  have e:k86.sz=3:=rfl;rw [e,flatF_drop l j p hj]
  exact k86_mkM _ _ _ p⟩
def api_Field_49.f (l0:List S86):Option (List S86):=if l0.length<1000000 then some l0 else none
theorem api_Field_49.calls (A0:Option Addr) (c0:Nat) (l0:List S86) (r:List S86) (w:World) (hr0:Kd.C k86 w A0 l0.length l0) (hc0:l0.length≤c0) (h:api_Field_49.f l0=some r):
  Calls Tryz.prog 49 #[.slice A0 l0.length c0] w fun e w'=>∃ v0_:Value,e=.returned v0_∧Kd.R k86 86 w' w.heap.size (fun _=>True) v0_ r∧Below w.heap.size w w':=by
 unfold api_Field_49.f at h
 by_cases hl:l0.length<1000000
 case neg=>rw [if_neg hl] at h;cases h
 rw [if_pos hl] at h;obtain rfl:=sI h;exact (clone.calls A0 c0 l0 w hr0 hl).mono fun e w' ⟨v,he,ho,hb⟩=>⟨v,he,R_of_ownF rfl ho,hb⟩
theorem own_sliceL {w:World} {base e sz n:Nat} {v:Value} {xs:List Value} (h:w.ownsRow base e sz v n xs):∃ A c,v=.slice A n c∧n≤c:=by
 rcases h.2 with ⟨rfl,h0⟩|⟨g,cap,cur,rfl,_,_,h,_⟩
 ·exact ⟨none,0,by rw [h0],by omega⟩
 ·exact ⟨_,cap,rfl,h⟩
theorem C_of_ownF {w:World} {base:Nat} {A:Option Addr} {n c:Nat} {l:List S86} (hn:l.length=n) (h:w.ownsRow base 86 3 (.slice A n c) n (l.flatMap encF)):Kd.C k86 w A n l:=by
 subst hn;obtain ⟨A',c',e,hc,hr⟩:=(R_of_ownF rfl h).2.reads;simp only [Value.slice.injEq] at e;obtain ⟨rfl,_,rfl⟩:=e;exact ReadsRow.imp_ hr (Below.refl _ _) (fun _ _ hp=>k86.K_of_M hp)
def schema_Sort.cf (k:Nat) (x y:S86):Int:=(name_Compare.f k x.f0 y.f0).getD 0
def schema_Sort.f (k:Nat) (l0:List S86):Option ((List (S86)) × Int):=
 if 24<l0.length then some ([],2) else (idxK (fun x:S86=>(schema_field.f k x.f0 x.f1 x.f2).bind fun b=>some (!b)) l0 0).bind fun i=>
  if 0≤i then some ([],1) else if ∀ x∈l0,∀ y∈l0,(name_Compare.f k x.f0 y.f0).isSome=true then (schema_Check.f k (stK 20 (schema_Sort.cf k) l0)).bind fun b=>if b=true then some (stK 20 (schema_Sort.cf k) l0,0) else some ([],9) else none
theorem schema_Sort1.calls (k:Nat) (x:S86) (cs:List Value) (b:Bool) (w:World) (hT:Tabs w) (hx:((schema_field.f k x.f0 x.f1 x.f2).bind fun b=>some (!b))=some b) (hK:k86.K w x cs):
  Calls Tryz.prog 138 #[.agg cs.toArray] w fun e w'=>e=.returned (.bool b)∧Below w.heap.size w w':=by
 obtain rfl:=k86_open hK;obtain ⟨c,hc,hx⟩:=Option.bind_eq_some_iff.1 hx;obtain rfl:=sI hx;have cS:=fun W (hb:Below w.heap.size w W)=>schema_field.calls k x.f0 x.f1 x.f2 c W (hT.below hb) hc
 clear hT hx hK hc;go_enter Tryz.func138,Tryz.ntmps138;go_wp2_with (go_at_call 93;refine (cS _ ((Below.refl _ w).alloc (Nat.le_refl _) _)).mono ?_;rintro e w' ⟨rfl,hb'⟩);go_ret;exact ⟨rfl,((Below.refl _ w).alloc (Nat.le_refl _) _).trans (hb'.mono (by simp))⟩
theorem srtBy.calls (k:Nat) (x y:S86) (r:Int) (w:World) (hT:Tabs w) (h:name_Compare.f k x.f0 y.f0=some r):
  Calls Tryz.prog 140 #[.agg #[.string x.f0,.int .i64 x.f1,.bool x.f2],.agg #[.string y.f0,.int .i64 y.f1,.bool y.f2]] w fun e w'=>e=.returned (.int .i64 r)∧Below w.heap.size w w':=by
 have cS:=fun W (hb:Below w.heap.size w W)=>name_Compare.calls k x.f0 y.f0 r W (hT.below hb) h
 clear hT h;go_enter Tryz.func140,Tryz.ntmps140;go_wp2_with (go_at_call 59;refine (cS _ (((Below.refl _ w).alloc (Nat.le_refl _) _).alloc (by simp) _)).mono ?_;rintro e w' ⟨rfl,hb'⟩);go_ret;exact ⟨rfl,(((Below.refl _ w).alloc (Nat.le_refl _) _).alloc (by simp) _).trans (hb'.mono (by simp;omega))⟩
theorem schema_Sort.calls (k:Nat) (A0:Option Addr) (c0:Nat) (l0:List (S86)) (r1:List (S86)) (r2:Int) (w:World) (hr0:Kd.C k86 w A0 l0.length l0) (hc0:l0.length≤c0) (hT:Tabs w) (h:schema_Sort.f k l0=some (r1,r2)):
  Calls Tryz.prog 98 #[.slice A0 l0.length c0] w fun e w'=>∃ v0_:Value,e=.returned (.tuple #[v0_,.int .i64 r2])∧Kd.R k86 86 w' w.heap.size (fun _=>True) v0_ r1∧Below w.heap.size w w':=by
 have inst:Inhabited S86:=⟨z86⟩;unfold schema_Sort.f at h
 by_cases hl:24<l0.length
 ·rw [if_pos hl] at h
  have h:=sI h;simp only [Prod.mk.injEq] at h;obtain ⟨rfl,rfl⟩:=h;have b1:decide ((24:Int)<(l0.length:Int))=true:=dT (by omega);have b2:((24:Int)<(l0.length:Int))=True:=eq_true (by omega);clear hr0 hT;go_enter Tryz.func98,Tryz.ntmps98;go_wp2
  go_ret2
  exact ⟨_,rfl,Kd.R_nil _ _ _ _ _,Below.refl _ _⟩
 rw [if_neg hl] at h;have b1:decide ((24:Int)<(l0.length:Int))=false:=dF (by omega);have b2:((24:Int)<(l0.length:Int))=False:=eq_false (by omega);obtain ⟨i,hi,h⟩:=Option.bind_eq_some_iff.1 h;have eg:∀ args w,(callFunc 138 args).run Tryz.prog w=.ok (.enter 138 args) w:=enters_of Tryz.func138 (by kernel_rfl) rfl
 have hcon:=hasField (α:=S86) k86 (by decide) Tryz.sizeOf86 _ 138 #[] eg A0 l0.length c0 l0 i w
   (fun W x cs b hx hb2 hK=>by
    have:=(schema_Sort1.calls k x cs b W (hT.below hb2) hx hK).mono fun e w' ⟨he,hw⟩=>(⟨he,hb2.trans (hw.mono hb2.size)⟩:_∧Below w.heap.size w w')
    rw [Array.append_empty];exact this)
   hr0 hi
 by_cases h0:0≤i
 ·rw [if_pos h0] at h
  have h:=sI h;simp only [Prod.mk.injEq] at h;obtain ⟨rfl,rfl⟩:=h;rw [dT h0] at hcon;clear hr0 hT hi h0 eg;go_enter Tryz.func98,Tryz.ntmps98;go_wp2_with (go_at_call 124;refine hcon.mono ?_;rintro e w1 ⟨rfl,hb1⟩)
  go_ret2
  exact ⟨_,rfl,Kd.R_nil _ _ _ _ _,hb1⟩
 rw [if_neg h0] at h;rw [dF h0] at hcon;have hsm:∀ x∈l0,∀ y∈l0,(name_Compare.f k x.f0 y.f0).isSome=true:=Classical.byContradiction fun hn=>by rw [if_neg hn] at h;cases h
 rw [if_pos hsm] at h;obtain ⟨b,hb,h⟩:=Option.bind_eq_some_iff.1 h;have cCl:=fun W (hw:Below w.heap.size w W)=>clone.calls A0 c0 l0 W (Kd.C_below hr0 hw) (by omega)
 have egB:∀ args w,(callFunc 140 args).run Tryz.prog w=.ok (.enter 140 args) w:=enters_of Tryz.func140 (by kernel_rfl) rfl
 have hcmp:∀ w0,Below w.heap.size w w0→CmpF w0 140 (schema_Sort.cf k) (fun x=>x∈l0):=fun w0 hw0 W hW x y hx hy=>by
  obtain ⟨r,hr⟩:=Option.isSome_iff_exists.1 (hsm x hx y hy);have e:schema_Sort.cf k x y=r:=by unfold schema_Sort.cf;rw [hr];rfl
  rw [e];exact srtBy.calls k x y r W (hT.below (hw0.trans (hW.mono hw0.size))) hr
 have cS:=fun w0 (hw0:Below w.heap.size w w0) (v:Value) (W:World) (hb0:Below w0.heap.size w0 W) (hv:W.ownsRow w0.heap.size 86 3 v l0.length (l0.flatMap encF))=>sortS.calls w0 140 v l0 (schema_Sort.cf k) (fun x=>x∈l0) W egB (hcmp w0 hw0) (fun _ h=>h) hb0 (by omega) hv
 have cC:=fun (A:Option Addr) (c:Nat) (W:World) (hw:Below w.heap.size w W) (hC:Kd.C k86 W A l0.length (stK 20 (schema_Sort.cf k) l0)) (hc:l0.length≤c)=>by
  have:=schema_Check.calls k A c (stK 20 (schema_Sort.cf k) l0) b W (by rw [stK_len];exact hC) (by rw [stK_len];exact hc) (hT.below hw) hb;rw [stK_len] at this;exact this
 have HCL:=aM cCl;have HS:=aM cS;have HC:=aM cC;have HLN:=aM (stK_len 20 (schema_Sort.cf k) l0);clear hr0 hT hi h0 eg egB hcmp hsm cCl cS cC hl hb
 generalize stK 20 (schema_Sort.cf k) l0=srt at *
 go_enter Tryz.func98,Tryz.ntmps98
 cases b with
 | true=>
  rw [if_pos rfl] at h;have h:=sI h;simp only [Prod.mk.injEq] at h;obtain ⟨rfl,rfl⟩:=h;go_wp2_with (first|(go_at_call 124;refine hcon.mono ?_;rintro e w1 ⟨rfl,hb1⟩)|(go_at_call 49;refine (HCL.out _ hb1).mono ?_;rintro e w2 ⟨v,rfl,ho2,hb2⟩;obtain ⟨A,cp,rfl,hcp⟩:=own_sliceL ho2)|(go_at_call 139;refine (HS.out _ hb1 _ _ hb2 ho2).mono ?_;rintro e w3 ⟨rfl,ho3,hb3⟩;have hw3:=hb1.trans (hb3.mono hb1.size);have hC3:=C_of_ownF HLN.out ho3)|(go_at_call 45;refine (HC.out _ _ _ hw3 hC3 hcp).mono ?_;rintro e w4 ⟨rfl,hb4⟩))
  go_ret2
  exact ⟨_,rfl,Kd.R_lower (Kd.R_below (R_of_ownF HLN.out ho3) hb4) hb1.size,hw3.trans (hb4.mono hw3.size)⟩
 | false=>
  rw [if_neg (by decide)] at h;have h:=sI h;simp only [Prod.mk.injEq] at h;obtain ⟨rfl,rfl⟩:=h;go_wp2_with (first|(go_at_call 124;refine hcon.mono ?_;rintro e w1 ⟨rfl,hb1⟩)|(go_at_call 49;refine (HCL.out _ hb1).mono ?_;rintro e w2 ⟨v,rfl,ho2,hb2⟩;obtain ⟨A,cp,rfl,hcp⟩:=own_sliceL ho2)|(go_at_call 139;refine (HS.out _ hb1 _ _ hb2 ho2).mono ?_;rintro e w3 ⟨rfl,ho3,hb3⟩;have hw3:=hb1.trans (hb3.mono hb1.size);have hC3:=C_of_ownF HLN.out ho3)|(go_at_call 45;refine (HC.out _ _ _ hw3 hC3 hcp).mono ?_;rintro e w4 ⟨rfl,hb4⟩))
  go_ret2
  exact ⟨_,rfl,Kd.R_nil _ _ _ _ _,hw3.trans (hb4.mono hw3.size)⟩
theorem idxK_mono {α:Type} {p q:α→Option Bool} (h:∀ x,LeO (p x) (q x)):∀ (l:List α) (i:Nat),LeO (idxK p l i) (idxK q l i)
 | [],i=>LeO.refl _
 | x :: xs,i=>LeO.bind (h x) fun b=>LeO.ite (LeO.refl _) (idxK_mono h xs (i+1))
theorem R_zero {α:Type} {d:Kd α} {e:Nat} {w:World} {base:Nat} {xs:List α} {n:Nat} {v:Value} (hn:xs.length=n) (hp:0<n) (h:d.R e w base (fun _=>True) v xs):∃ g cap,v=.slice (some ⟨g,0,none⟩) n cap∧n≤cap∧d.R e w base (fun _=>True) (.slice (some ⟨g,0,none⟩) 0 cap) []:=by
 obtain ⟨h0,inner,ho,hr⟩:=h
 rcases ho.2 with ⟨_,h⟩|⟨g,cap,cur,rfl,hg,hh,h1,h2,h3,h4⟩
 ·omega
 ·exact ⟨g,cap,by rw [hn],by omega,fun _ _=>trivial,[],⟨by simp,.inr ⟨g,cap,cur,rfl,hg,hh,Nat.zero_le _,h2,h3,by simp⟩⟩,Reps.none _ _⟩
theorem grow.calls (n:Nat) (hn:n<1000000) (w:World):
  Calls Tryz.prog 141 #[.slice none 0 0,.int .i64 n] w fun e w'=>∃ v,e=.returned v∧Kd.R k86 86 w' w.heap.size (fun _=>True) v []∧Below w.heap.size w w':=by
 have hu:=Tryz.underlying23;have hui:=Tryz.underlying3;have E1:wrap64 ((n:Int)-0)=(n:Int):=by unfold wrap64;omega
 have E2:IntKind.i64.wrap ((n:Int)-0)=(n:Int):=(i64_w _).trans E1;have E3:wrap64 (n:Int)=(n:Int):=by unfold wrap64;omega
 have E4:IntKind.i64.wrap (n:Int)=(n:Int):=(i64_w _).trans E3;have F1:decide ((n:Int)<0)=false:=dF (by omega);have F2:((n:Int)<0)=False:=eq_false (by omega)
 rcases Nat.eq_zero_or_pos n with h0|h0
 ·subst h0
  go_enter Tryz.func141,Tryz.ntmps141;go_wp2;go_ret;exact ⟨_,rfl,Kd.R_nil _ _ _ _ _,Below.refl _ _⟩
 ·have G1:decide (0<(n:Int))=true:=dT (by omega)
  have G2:(0<(n:Int))=True:=eq_true (by omega);have G3:decide (0<n)=true:=dT h0;have G4:(0<n)=True:=eq_true h0;have HN:=aM hn;have HP:=aM h0;clear hn h0;go_enter Tryz.func141,Tryz.ntmps141;go_wp2_with (at_builtin;refine Kd.R_append_zeros k86 (w0:=w) w.heap.size rfl (.tmp 20) (.tmp 21) 23 3 86 _ 32 rfl hu hui info86 rfl (by decide) (by decide) _ [] z86 (n:Int) (fun _=>True) rfl rfl (k86_mkM _ _ _ z86) (fun _ _=>trivial) (Kd.R_nil _ _ _ _ _) (Int.natCast_nonneg _) (Below.refl _ _) (Nat.le_refl _) (by have:=HN.out;rw [Int.toNat_natCast,List.length_nil];omega) ?_);intro v1 w1 h1 hb1 hg1 hat;obtain ⟨g,cap,rfl,hcap,h2⟩:=R_zero (List.length_replicate ..) HP.out h1;have J1:(0≤(cap:Int))=True:=eq_true (by omega);clear h1 hg1 hat;go_wp2;go_ret;exact ⟨_,rfl,h2,hb1⟩
theorem w64s (n:Nat) (h:n<4000000000):wrap64 (n:Int)=(n:Int):=by unfold wrap64;omega
theorem w64z (n:Nat) (h:n<4000000000):wrap64 (0+(n:Int))=(n:Int):=by unfold wrap64;omega
theorem w64p (a b c:Nat) (hc:c=a+b) (h:c<4000000000):wrap64 ((a:Int)+(b:Int))=(c:Int):=by unfold wrap64;omega
theorem concat2.calls (b:Nat) (A0:Option Addr) (c0:Nat) (l0:List S86) (A1:Option Addr) (c1:Nat) (l1:List S86) (w:World) (hb:b<w.heap.size) (hx0:w.cell? ⟨b,0,none⟩=some (.slice A0 l0.length c0)) (hx1:w.cell? ⟨b,1,none⟩=some (.slice A1 l1.length c1))
  (hC0:Kd.C k86 w A0 l0.length l0) (hC1:Kd.C k86 w A1 l1.length l1) (hl0:l0.length<400000) (hl1:l1.length<400000):
  Calls Tryz.prog 99 #[.slice (some ⟨b,0,none⟩) 2 2] w fun e w'=>∃ v,e=.returned v∧Kd.R k86 86 w' w.heap.size (fun _=>True) v (l0++l1)∧Below w.heap.size w w':=by
 have hu:=Tryz.underlying23;have hu2:=Tryz.underlying190;obtain ⟨n0,hn0⟩:∃ n0,n0=l0.length:=⟨_,rfl⟩;obtain ⟨n1,hn1⟩:∃ n1,n1=l1.length:=⟨_,rfl⟩;obtain ⟨n2,hn2⟩:∃ n2,n2=n0+n1:=⟨_,rfl⟩;have hcat:(l0++l1).length=n2:=by rw [List.length_append];omega
 rw [← hn0] at hx0 hC0;rw [← hn1] at hx1 hC1;have HG:=aM (fun (W:World)=>grow.calls n2 (by omega) W);have X0:=aM (fun (W:World) (hW:Below w.heap.size w W)=>(hW.cell (p:=⟨b,0,none⟩) hb).trans hx0);have X1:=aM (fun (W:World) (hW:Below w.heap.size w W)=>(hW.cell (p:=⟨b,1,none⟩) hb).trans hx1);have HC0:=aM (fun (W:World) (hW:Below w.heap.size w W)=>Kd.C_below hC0 hW);have HC1:=aM (fun (W:World) (hW:Below w.heap.size w W)=>Kd.C_below hC1 hW);have hap:∀ (W:World) (A:Option Addr) (n:Nat) (xs:List S86),Kd.C k86 W A n xs→ReadsRow (k86.K W) k86.sz W A n xs:=fun W A n xs h=>h
 have hKM:∀ (W:World) (base:Nat) (x:S86) (cs:List Value),k86.K W x cs→k86.M W base (fun _=>False) x cs:=fun W base x cs h=>by obtain rfl:=k86_open h;exact k86_mkM _ _ _ x
 have F0:decide ((n0:Int)<0)=false:=dF (by omega);have F0':((n0:Int)<0)=False:=eq_false (by omega);have F2:decide ((n2:Int)<0)=false:=dF (by omega);have F2':((n2:Int)<0)=False:=eq_false (by omega);have hb0:n0<4000000000:=by omega
 have hb2:n2<4000000000:=by omega
 have E0:=w64z n0 hb0;have E0':=(i64_w _).trans E0;have E0z:=w64s n0 hb0;have E0y:=(i64_w _).trans E0z;have E1:=w64p n0 n1 n2 hn2 hb2;have E1':=(i64_w _).trans E1;clear hb0 hb2;have HL:=aM (And.intro hl0 (And.intro hl1 (And.intro hn0 (And.intro hn1 hcat))));have HBB:=aM hb;clear hx0 hx1 hC0 hC1 hl0 hl1 hn0 hn1 hn2 hcat hb;go_enter Tryz.func99,Tryz.ntmps99;go_wp2
 go_loopw [11,3] (fun v11 v3 wr=>(v11=.int .i64 0∧v3=.int .i64 0∧wr=w)∨(v11=.int .i64 1∧v3=.int .i64 n0∧wr=w)∨(v11=.int .i64 2∧v3=.int .i64 n2∧wr=w)) (fun v11 _ _=>(2-intOf v11).toNat)
 case atStart=>exact .inl ⟨rfl,rfl,rfl⟩
 case' round=>
  have x0:=X0.out _ (Below.refl _ _);have x1:=X1.out _ (Below.refl _ _);obtain (⟨rfl,rfl,rfl⟩|⟨rfl,rfl,rfl⟩|⟨rfl,rfl,rfl⟩):=hrel
  ·go_wp2
   go_roundw
   case rel=>exact .inr (.inl ⟨rfl,rfl,by first|rfl|trivial⟩)
   case measure=>simp only [intOf];omega
  ·go_wp2
   go_roundw
   case rel=>exact .inr (.inr ⟨rfl,rfl,by first|rfl|trivial⟩)
   case measure=>simp only [intOf];omega
 clear E0 E0' E0z E0y E1 E1' F0 F0' F2 F2';go_wp2_with (go_at_call 141;refine (HG.out _).mono ?_;rintro e w1 ⟨v,rfl,h1,hb1⟩)
 go_loopw [27,6] (fun v27 v6 wq=>(v27=.int .i64 0∧Aside (Kd.R k86 86 wq wr.heap.size (fun _=>True) v6 [])∧Aside (Below wr.heap.size wr wq))∨(v27=.int .i64 1∧Aside (Kd.R k86 86 wq wr.heap.size (fun _=>True) v6 l0)∧Aside (Below wr.heap.size wr wq))∨(v27=.int .i64 2∧Aside (Kd.R k86 86 wq wr.heap.size (fun _=>True) v6 (l0++l1))∧Aside (Below wr.heap.size wr wq))) (fun v27 _ _=>(2-intOf v27).toNat)
 case atStart=>exact .inl ⟨rfl,h1,hb1⟩
 case round=>
  obtain (⟨rfl,HR,HB⟩|⟨rfl,HR,HB⟩|⟨rfl,HR,HB⟩):=hrel
  ·have y0:=X0.out _ HB.out
   go_wp2_with (at_builtin;refine Kd.R_append_rows k86 _ rfl (.tmp 31) (.tmp 32) 23 86 _ 32 rfl hu info86 rfl (by decide) (by decide) _ [] l0 A0 n0 c0 (fun _=>True) (fun _=>False) rfl rfl HR.out (HC0.out _ HB.out) (hKM _ _) (fun _ h=>h.elim) (fun _ _=>trivial) HB.out HB.out.size (by have:=HL.out;(try simp only [List.length_nil]);omega) ?_);intro v1 w1 h1 hb1 hg hat;clear hg hat;go_wp2
   go_roundw
   case rel=>exact .inr (.inl ⟨rfl,h1,hb1⟩)
   case measure=>simp only [intOf];omega
  ·have y1:=X1.out _ HB.out
   go_wp2_with (at_builtin;refine Kd.R_append_rows k86 _ rfl (.tmp 31) (.tmp 32) 23 86 _ 32 rfl hu info86 rfl (by decide) (by decide) _ l0 l1 A1 n1 c1 (fun _=>True) (fun _=>False) rfl rfl HR.out (HC1.out _ HB.out) (hKM _ _) (fun _ h=>h.elim) (fun _ _=>trivial) HB.out HB.out.size (by have:=HL.out;(try simp only [List.length_nil]);omega) ?_);intro v1 w1 h1 hb1 hg hat;clear hg hat;go_wp2
   go_roundw
   case rel=>exact .inr (.inr ⟨rfl,h1,hb1⟩)
   case measure=>simp only [intOf];omega
  ·go_wp2
   go_ret;exact ⟨_,rfl,HR.out,HB.out⟩
def schema_Merge.go (l0:List S86):List S86→Option Bool
 | []=>some false
 | x :: xs=>(schema_Find.f l0 x.f0).bind fun t=>if t.2.2.2=true then some true else schema_Merge.go l0 xs
def schema_Merge.f (k:Nat) (l0:List S86) (l1:List S86):Option ((List (S86)) × Int):=(schema_Check.f k l0).bind fun a=>if a=true then (schema_Check.f k l1).bind fun b=>if b=true then (schema_Merge.go l0 l1).bind fun c=>if c=true then some ([],9) else if l0.length+l1.length≤1000 then schema_Sort.f k (l0++l1) else none else some ([],1) else some ([],1)
theorem schema_Merge.calls (k:Nat) (A0:Option Addr) (c0:Nat) (l0:List (S86)) (A1:Option Addr) (c1:Nat) (l1:List (S86)) (r1:List (S86)) (r2:Int) (w:World) (hr0:Kd.C k86 w A0 l0.length l0) (hc0:l0.length≤c0) (hr1:Kd.C k86 w A1 l1.length l1) (hc1:l1.length≤c1) (hT:Tabs w) (h:schema_Merge.f k l0 l1=some (r1,r2)):
  Calls Tryz.prog 48 #[.slice A0 l0.length c0,.slice A1 l1.length c1] w fun e w'=>∃ v0_:Value,e=.returned (.tuple #[v0_,.int .i64 r2])∧Kd.R k86 86 w' w.heap.size (fun _=>True) v0_ r1∧Below w.heap.size w w':=by
 unfold schema_Merge.f at h;obtain ⟨a,ha,h⟩:=Option.bind_eq_some_iff.1 h;have cA:=fun W (hb:Below w.heap.size w W)=>schema_Check.calls k A0 c0 l0 a W (Kd.C_below hr0 hb) hc0 (hT.below hb) ha
 cases a with
 | false=>
  rw [if_neg (by decide)] at h;have h:=sI h;simp only [Prod.mk.injEq] at h;obtain ⟨rfl,rfl⟩:=h;clear hr0 hr1 hT;go_enter Tryz.func48,Tryz.ntmps48;go_wp2_with (go_at_call 45;refine (cA _ (Below.refl _ _)).mono ?_;rintro e w1 ⟨rfl,hb1⟩)
  go_ret2
  exact ⟨_,rfl,Kd.R_nil _ _ _ _ _,hb1⟩
 | true=>
  rw [if_pos rfl] at h;obtain ⟨b,hb,h⟩:=Option.bind_eq_some_iff.1 h;have cB:=fun W (hw:Below w.heap.size w W)=>schema_Check.calls k A1 c1 l1 b W (Kd.C_below hr1 hw) hc1 (hT.below hw) hb
  clear hb
  cases b with
  | false=>
   rw [if_neg (by decide)] at h;have h:=sI h;simp only [Prod.mk.injEq] at h;obtain ⟨rfl,rfl⟩:=h;clear hr0 hr1 hT;go_enter Tryz.func48,Tryz.ntmps48;go_wp2_with (first|(go_at_call_of 45 (Value.slice A0 l0.length c0);refine (cA _ (Below.refl _ _)).mono ?_;rintro e w1 ⟨rfl,hb1⟩)|(go_at_call_of 45 (Value.slice A1 l1.length c1);refine (cB _ hb1).mono ?_;rintro e w2 ⟨rfl,hb2⟩;have hB2:=hb1.trans (hb2.mono hb1.size)))
   go_ret2
   exact ⟨_,rfl,Kd.R_nil _ _ _ _ _,hB2⟩
  | true=>
   rw [if_pos rfl] at h;obtain ⟨q,hq,h⟩:=Option.bind_eq_some_iff.1 h
   have HTT:q=true→r1=[]∧r2=9:=fun e=>by
    rw [if_pos e] at h;have h:=sI h;simp only [Prod.mk.injEq] at h;exact ⟨h.1.symm,h.2.symm⟩
   have HSS:q=false→(l0.length+l1.length≤1000∧∀ (A:Option Addr) (c:Nat) W,Below w.heap.size w W→Kd.C k86 W A (l0++l1).length (l0++l1)→(l0++l1).length≤c→Calls Tryz.prog 98 #[.slice A (l0++l1).length c] W fun e w'=>∃ v0_:Value,e=.returned (.tuple #[v0_,.int .i64 r2])∧Kd.R k86 86 w' W.heap.size (fun _=>True) v0_ r1∧Below W.heap.size W w'):=fun e=>by
    subst e;rw [if_neg (by decide)] at h
    by_cases hl:l0.length+l1.length≤1000
    ·rw [if_pos hl] at h
     exact ⟨hl,fun A c W hW hC hc=>schema_Sort.calls k A c (l0++l1) r1 r2 W hC hc (hT.below hW) h⟩
    ·rw [if_neg hl] at h;cases h
   have HTT:=aM HTT;have HSS:=aM HSS;have HQ:=aM hq;have HX:=aM (And.intro hr0 hr1);have cF:=fun W (hw:Below w.heap.size w W) (s:ByteArray) (t1:ByteArray) (t2:Int) (t3 t4:Bool) (hf:schema_Find.f l0 s=some (t1,t2,t3,t4))=>(schema_Find.calls A0 c0 l0 s t1 t2 t3 t4 W (Kd.C_below hr0 hw) hc0 (hT.below hw) hf).mono fun e w' hp=>(⟨hp.1,hw.trans (hp.2.mono hw.size)⟩:_∧Below w.heap.size w w')
   have hA:=fun (i:Int) (h0:0≤i) (h1:i<(l1.length:Int)) W (hW:Below w.heap.size w W)=>at_T86 (Kd.C_below hr1 hW) i h0 h1
   have hll:l1.length≤9223372036854775807:=hr1.2.1;clear hq hT hr0 hr1 ha h;go_enter Tryz.func48,Tryz.ntmps48;go_wp2_with (first|(go_at_call_of 45 (Value.slice A0 l0.length c0);refine (cA _ (Below.refl _ _)).mono ?_;rintro e w1 ⟨rfl,hb1⟩)|(go_at_call_of 45 (Value.slice A1 l1.length c1);refine (cB _ hb1).mono ?_;rintro e w2 ⟨rfl,hb2⟩;have hB2:=hb1.trans (hb2.mono hb1.size)))
   go_loopg [20] l1.length (fun gg v20 wr=>∃ kk:Nat,kk≤l1.length∧l1.length-kk≤gg∧v20=.int .i64 kk∧Aside (Below w.heap.size w wr)∧Aside (schema_Merge.go l0 (l1.drop kk)=some q))
   case atStart=>exact ⟨0,Nat.zero_le _,by omega,rfl,hB2,by have:=HQ.out;exact this⟩
   case round=>
    obtain ⟨kk,hkk,hg,rfl,BW,A⟩:=hrel
    by_cases hlt:kk<l1.length
    ·have hltz:(kk:Int)<(l1.length:Int):=by omega
     have hgo:=A.out;rw [List.drop_eq_getElem_cons hlt,schema_Merge.go] at hgo;obtain ⟨⟨t1,t2,t3,t4⟩,ht,hgo⟩:=Option.bind_eq_some_iff.1 hgo;have hx:=hA kk (by omega) hltz wr BW.out
     have hrd:rd_T86 l1 (kk:Int)=l1[kk]:=by
      unfold rd_T86;rw [Int.toNat_natCast,List.getD_eq_getElem?_getD,List.getElem?_eq_getElem hlt];rfl
     rw [hrd] at hx
     generalize l1[kk]=y at hx ht hrd
     obtain ⟨ad,rfl,x0,x1,x2⟩:=hx;have cG:=fun W hw=>cF W hw y.f0 t1 t2 t3 t4 ht
     clear cF ht hrd hA cA cB;rw [Int.toNat_natCast] at x0 x1 x2;have hBW:=BW.out;have hpos:(0:Int)≤(kk:Int):=by omega
     cases t4 with
     | true=>
      rw [if_pos rfl] at hgo;obtain ⟨rfl,rfl⟩:=HTT.out (sI hgo).symm;clear hgo A BW;go_wp2_with (go_at_call 97;refine (cG _ (by repeat (first|exact hBW|apply below_alloc|refine below_set ?_ hBW.size))).mono ?_;rintro e w3 ⟨rfl,hB3⟩)
      go_ret2
      exact ⟨_,rfl,Kd.R_nil _ _ _ _ _,by repeat (first|exact hB3|apply below_alloc|refine below_set ?_ hB3.size)⟩
     | false=>
      replace hgo:schema_Merge.go l0 (l1.drop (kk+1))=some q:=hgo;have HG:=aM hgo;clear hgo A BW;go_wp2_with (go_at_call 97;refine (cG _ (by repeat (first|exact hBW|apply below_alloc|refine below_set ?_ hBW.size))).mono ?_;rintro e w3 ⟨rfl,hB3⟩)
      go_roundg (l1.length-(kk+1))
      case measure=>omega
      case rel=>exact ⟨kk+1,by omega,by omega,by go_num,(by repeat (first|exact hB3|apply below_alloc|refine below_set ?_ hB3.size)),HG.out⟩
    ·have hltz:¬ (kk:Int)<(l1.length:Int):=by omega
     have hA:=A.out;rw [List.drop_of_length_le (by omega),schema_Merge.go] at hA;obtain ⟨hl,cS⟩:=HSS.out (sI hA).symm;have hB0:=BW.out;have hB1:Below w.heap.size w (wr.alloc (.cells #[.slice A0 l0.length c0,.slice A1 l1.length c1] 23)):=hB0.alloc hB0.size _;have cK:=concat2.calls wr.heap.size A0 c0 l0 A1 c1 l1 (wr.alloc (.cells #[.slice A0 l0.length c0,.slice A1 l1.length c1] 23)) (by simp) ((Lib.cell_of_heap (heap_alloc_new wr _) 0).trans rfl) ((Lib.cell_of_heap (heap_alloc_new wr _) 1).trans rfl) (Kd.C_below HX.out.1 hB1) (Kd.C_below HX.out.2 hB1) (by omega) (by omega);obtain ⟨l2,hl2⟩:∃ l2,l2=l0++l1:=⟨_,rfl⟩;rw [← hl2] at cK cS;have CS:=aM cS;have HK:=aM hB1;clear A BW hA cS hl hl2;go_wp2_with (first|(go_at_call 99;refine cK.mono ?_;rintro e w3 ⟨v,rfl,hR3,hb3⟩;obtain ⟨A3,c3,rfl,hc3,hC3⟩:=Kd.R_reads hR3;have hB3:=HK.out.trans (hb3.mono HK.out.size))|(go_at_call 98;refine (CS.out _ _ _ hB3 hC3 hc3).mono ?_;rintro e w4 ⟨v4,rfl,hR4,hb4⟩))
     go_ret2
     exact ⟨_,rfl,Kd.R_lower hR4 hB3.size,hB3.trans (hb4.mono hB3.size)⟩
theorem growS.calls (n:Nat) (hn:n<1000000) (w:World):
  Calls Tryz.prog 100 #[.slice none 0 0,.int .i64 n] w fun e w'=>∃ v,e=.returned v∧Kd.R Kd.string 9 w' w.heap.size (fun _=>True) v []∧Below w.heap.size w w':=by
 have hu:=Tryz.underlying28;have hui:=Tryz.underlying3;have E1:wrap64 ((n:Int)-0)=(n:Int):=by unfold wrap64;omega
 have E2:IntKind.i64.wrap ((n:Int)-0)=(n:Int):=(i64_w _).trans E1;have E3:wrap64 (n:Int)=(n:Int):=by unfold wrap64;omega
 have E4:IntKind.i64.wrap (n:Int)=(n:Int):=(i64_w _).trans E3;have F1:decide ((n:Int)<0)=false:=dF (by omega);have F2:((n:Int)<0)=False:=eq_false (by omega)
 rcases Nat.eq_zero_or_pos n with h0|h0
 ·subst h0
  go_enter Tryz.func100,Tryz.ntmps100;go_wp2;go_ret;exact ⟨_,rfl,Kd.R_nil _ _ _ _ _,Below.refl _ _⟩
 ·have G1:decide (0<(n:Int))=true:=dT (by omega)
  have G2:(0<(n:Int))=True:=eq_true (by omega);have G3:decide (0<n)=true:=dT h0;have G4:(0<n)=True:=eq_true h0;have HN:=aM hn;have HP:=aM h0;clear hn h0;go_enter Tryz.func100,Tryz.ntmps100;go_wp2_with (at_builtin;refine Kd.R_append_zeros Kd.string (w0:=w) w.heap.size rfl (.tmp 20) (.tmp 21) 28 3 9 _ 16 rfl hu hui info9 rfl (by decide) (by decide) _ [] (⟨#[]⟩:ByteArray) (n:Int) (fun _=>True) rfl rfl (show Kd.string.M _ _ _ (⟨#[]⟩:ByteArray) [.string ⟨#[]⟩] from rfl) (fun _ _=>trivial) (Kd.R_nil _ _ _ _ _) (Int.natCast_nonneg _) (Below.refl _ _) (Nat.le_refl _) (by have:=HN.out;rw [Int.toNat_natCast,List.length_nil];omega) ?_);intro v1 w1 h1 hb1 hg1 hat;obtain ⟨g,cap,rfl,hcap,h2⟩:=R_zero (List.length_replicate ..) HP.out h1;have J1:(0≤(cap:Int))=True:=eq_true (by omega);clear h1 hg1 hat;go_wp2;go_ret;exact ⟨_,rfl,h2,hb1⟩
theorem concatS.calls (b cc:Nat) (A0:Option Addr) (c0:Nat) (l0:List ByteArray) (A1:Option Addr) (c1:Nat) (l1:List ByteArray) (w:World) (hb:b<w.heap.size) (hx0:w.cell? ⟨b,0,none⟩=some (.slice A0 l0.length c0)) (hx1:w.cell? ⟨b,1,none⟩=some (.slice A1 l1.length c1))
  (hC0:Kd.C Kd.string w A0 l0.length l0) (hC1:Kd.C Kd.string w A1 l1.length l1) (hl0:l0.length<400000) (hl1:l1.length<400000):
  Calls Tryz.prog 50 #[.slice (some ⟨b,0,none⟩) 2 cc] w fun e w'=>∃ v,e=.returned v∧Kd.R Kd.string 9 w' w.heap.size (fun _=>True) v (l0++l1)∧Below w.heap.size w w':=by
 have hu:=Tryz.underlying28;have hu2:=Tryz.underlying154;obtain ⟨n0,hn0⟩:∃ n0,n0=l0.length:=⟨_,rfl⟩;obtain ⟨n1,hn1⟩:∃ n1,n1=l1.length:=⟨_,rfl⟩;obtain ⟨n2,hn2⟩:∃ n2,n2=n0+n1:=⟨_,rfl⟩;have hcat:(l0++l1).length=n2:=by rw [List.length_append];omega
 rw [← hn0] at hx0 hC0;rw [← hn1] at hx1 hC1;have HG:=aM (fun (W:World)=>growS.calls n2 (by omega) W);have X0:=aM (fun (W:World) (hW:Below w.heap.size w W)=>(hW.cell (p:=⟨b,0,none⟩) hb).trans hx0);have X1:=aM (fun (W:World) (hW:Below w.heap.size w W)=>(hW.cell (p:=⟨b,1,none⟩) hb).trans hx1);have HC0:=aM (fun (W:World) (hW:Below w.heap.size w W)=>Kd.C_below hC0 hW);have HC1:=aM (fun (W:World) (hW:Below w.heap.size w W)=>Kd.C_below hC1 hW);have hap:∀ (W:World) (A:Option Addr) (n:Nat) (xs:List ByteArray),Kd.C Kd.string W A n xs→ReadsRow (Kd.string.K W) Kd.string.sz W A n xs:=fun W A n xs h=>h
 have hKM:∀ (W:World) (base:Nat) (x:ByteArray) (cs:List Value),Kd.string.K W x cs→Kd.string.M W base (fun _=>False) x cs:=fun W base x cs h=>h
 have F0:decide ((n0:Int)<0)=false:=dF (by omega);have F0':((n0:Int)<0)=False:=eq_false (by omega);have F2:decide ((n2:Int)<0)=false:=dF (by omega);have F2':((n2:Int)<0)=False:=eq_false (by omega);have hb0:n0<4000000000:=by omega
 have hb2:n2<4000000000:=by omega
 have E0:=w64z n0 hb0;have E0':=(i64_w _).trans E0;have E0z:=w64s n0 hb0;have E0y:=(i64_w _).trans E0z;have E1:=w64p n0 n1 n2 hn2 hb2;have E1':=(i64_w _).trans E1;clear hb0 hb2;have HL:=aM (And.intro hl0 (And.intro hl1 (And.intro hn0 (And.intro hn1 hcat))));have HBB:=aM hb;clear hx0 hx1 hC0 hC1 hl0 hl1 hn0 hn1 hn2 hcat hb;go_enter Tryz.func50,Tryz.ntmps50;go_wp2
 go_loopw [11,3] (fun v11 v3 wr=>(v11=.int .i64 0∧v3=.int .i64 0∧wr=w)∨(v11=.int .i64 1∧v3=.int .i64 n0∧wr=w)∨(v11=.int .i64 2∧v3=.int .i64 n2∧wr=w)) (fun v11 _ _=>(2-intOf v11).toNat)
 case atStart=>exact .inl ⟨rfl,rfl,rfl⟩
 case' round=>
  have x0:=X0.out _ (Below.refl _ _);have x1:=X1.out _ (Below.refl _ _);obtain (⟨rfl,rfl,rfl⟩|⟨rfl,rfl,rfl⟩|⟨rfl,rfl,rfl⟩):=hrel
  ·go_wp2
   go_roundw
   case rel=>exact .inr (.inl ⟨rfl,rfl,by first|rfl|trivial⟩)
   case measure=>simp only [intOf];omega
  ·go_wp2
   go_roundw
   case rel=>exact .inr (.inr ⟨rfl,rfl,by first|rfl|trivial⟩)
   case measure=>simp only [intOf];omega
 clear E0 E0' E0z E0y E1 E1' F0 F0' F2 F2';go_wp2_with (go_at_call 100;refine (HG.out _).mono ?_;rintro e w1 ⟨v,rfl,h1,hb1⟩)
 go_loopw [27,6] (fun v27 v6 wq=>(v27=.int .i64 0∧Aside (Kd.R Kd.string 9 wq wr.heap.size (fun _=>True) v6 [])∧Aside (Below wr.heap.size wr wq))∨(v27=.int .i64 1∧Aside (Kd.R Kd.string 9 wq wr.heap.size (fun _=>True) v6 l0)∧Aside (Below wr.heap.size wr wq))∨(v27=.int .i64 2∧Aside (Kd.R Kd.string 9 wq wr.heap.size (fun _=>True) v6 (l0++l1))∧Aside (Below wr.heap.size wr wq))) (fun v27 _ _=>(2-intOf v27).toNat)
 case atStart=>exact .inl ⟨rfl,h1,hb1⟩
 case round=>
  obtain (⟨rfl,HR,HB⟩|⟨rfl,HR,HB⟩|⟨rfl,HR,HB⟩):=hrel
  ·have y0:=X0.out _ HB.out
   go_wp2_with (at_builtin;refine Kd.R_append_rows Kd.string _ rfl (.tmp 31) (.tmp 32) 28 9 _ 16 rfl hu info9 rfl (by decide) (by decide) _ [] l0 A0 n0 c0 (fun _=>True) (fun _=>False) rfl rfl HR.out (HC0.out _ HB.out) (hKM _ _) (fun _ h=>h.elim) (fun _ _=>trivial) HB.out HB.out.size (by have:=HL.out;(try simp only [List.length_nil]);omega) ?_);intro v1 w1 h1 hb1 hg hat;clear hg hat;go_wp2
   go_roundw
   case rel=>exact .inr (.inl ⟨rfl,h1,hb1⟩)
   case measure=>simp only [intOf];omega
  ·have y1:=X1.out _ HB.out
   go_wp2_with (at_builtin;refine Kd.R_append_rows Kd.string _ rfl (.tmp 31) (.tmp 32) 28 9 _ 16 rfl hu info9 rfl (by decide) (by decide) _ l0 l1 A1 n1 c1 (fun _=>True) (fun _=>False) rfl rfl HR.out (HC1.out _ HB.out) (hKM _ _) (fun _ h=>h.elim) (fun _ _=>trivial) HB.out HB.out.size (by have:=HL.out;(try simp only [List.length_nil]);omega) ?_);intro v1 w1 h1 hb1 hg hat;clear hg hat;go_wp2
   go_roundw
   case rel=>exact .inr (.inr ⟨rfl,h1,hb1⟩)
   case measure=>simp only [intOf];omega
  ·go_wp2
   go_ret;exact ⟨_,rfl,HR.out,HB.out⟩
def kv:Kd Value where
 sz:=1
 E:=[]
 K:=fun _ x cs=>cs=[x]∧x.oneCell'=true
 M:=fun _ _ _ x cs=>cs=[x]∧x.oneCell'=true
 K_len:=fun h=>by rw [h.1];rfl
 K_one:=fun h u hu=>by
  rw [h.1] at hu;rw [List.mem_singleton.1 hu];exact h.2
 K_below:=fun _ h=>h
 K_of_M:=fun h=>h
 M_mono:=fun _ h=>h
 M_bound:=fun h=>h
 M_move:=fun _ h=>h
 M_lower:=fun _ h=>h
theorem kv_reps {w:World} {base:Nat} {ok:Nat→Prop} {a b:Value} (ha:a.oneCell'=true) (hb:b.oneCell'=true):Reps (kv.M w base ok) 1 [a,b] [a,b]:=
 Reps.snoc (ps:=[a]) (cs:=[a]) (Reps.snoc (ps:=[]) (cs:=[]) (Reps.none _ _) ⟨rfl,ha⟩ rfl) ⟨rfl,hb⟩ rfl
theorem kv_two {T:Nat} {w:World} {base:Nat} {ok:Nat→Prop} {v a b:Value} (h:Kd.R kv T w base ok v [a,b]):∃ g c,v=.slice (some ⟨g,0,none⟩) 2 c∧g<w.heap.size∧w.cell? ⟨g,0,none⟩=some a∧w.cell? ⟨g,1,none⟩=some b:=by
 obtain ⟨A,c,rfl,hc,hC⟩:=Kd.R_reads h;obtain ⟨inner,hown⟩:=Kd.R_own h
 rcases hown.2 with ⟨_,h0⟩|⟨g,cap,cur,e,hg,hh,r⟩
 ·cases h0
 ·injection e with e1 e2 e3
  subst e1;have q:=fun (i:Int) h0 h1=>Kd.C_get hC (.bool false) i h0 h1
  obtain ⟨ad0,c0,x0,_,⟨y0,_⟩,z0⟩:=q 0 (by omega) (by simp);obtain ⟨ad1,c1,x1,_,⟨y1,_⟩,z1⟩:=q 1 (by omega) (by simp);obtain rfl:=sI x0;obtain rfl:=sI x1;subst y0;subst y1;refine ⟨g,c,rfl,blk_lt hh,?_,?_⟩
  ·have:=z0 0 _ rfl
   have e:(⟨g,0,none⟩:Addr).add 0=⟨g,0,none⟩:=by rfl
   rw [← e];exact this
  ·have:=z1 0 _ rfl
   have e:(⟨g,0,none⟩:Addr).add 1=⟨g,1,none⟩:=by rfl
   rw [← e];exact this
def forest_cons.f (l0 l1:List ByteArray):Option (List ByteArray):=if l0.length<400000 then (if l1.length<400000 then some (l0++l1) else none) else none
theorem forest_cons.calls (b cc:Nat) (A0:Option Addr) (c0:Nat) (l0:List ByteArray) (A1:Option Addr) (c1:Nat) (l1:List ByteArray) (r:List ByteArray) (w:World) (hb:b<w.heap.size) (hx0:w.cell? ⟨b,0,none⟩=some (.slice A0 l0.length c0)) (hx1:w.cell? ⟨b,1,none⟩=some (.slice A1 l1.length c1)) (hr0:Kd.C Kd.string w A0 l0.length l0) (hr1:Kd.C Kd.string w A1 l1.length l1) (h:forest_cons.f l0 l1=some r):
  Calls Tryz.prog 50 #[.slice (some ⟨b,0,none⟩) 2 cc] w fun e w'=>∃ v0_:Value,e=.returned v0_∧Kd.R Kd.string 9 w' w.heap.size (fun _=>True) v0_ r∧Below w.heap.size w w':=by
 unfold forest_cons.f at h
 by_cases h0:l0.length<400000
 case neg=>rw [if_neg h0] at h;cases h
 by_cases h1:l1.length<400000
 case neg=>rw [if_pos h0,if_neg h1] at h;cases h
 rw [if_pos h0,if_pos h1] at h;obtain rfl:=sI h;exact concatS.calls b cc A0 c0 l0 A1 c1 l1 w hb hx0 hx1 hr0 hr1 h0 h1
end Go.Proofs.YtpjjbaclphoilaaGreatDoor.A
