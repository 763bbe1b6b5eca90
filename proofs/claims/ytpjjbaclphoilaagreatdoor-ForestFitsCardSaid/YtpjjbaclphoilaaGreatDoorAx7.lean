import Derived.Test.YtpjjbaclphoilaaGreatDoorAx0
import Derived.Test.YtpjjbaclphoilaaGreatDoorAx6
namespace Go.Proofs.YtpjjbaclphoilaaGreatDoor.A
open Go.RowKit Go.Proofs.YtpjjbaclphoilaaGreatDoorW.PrintWords Go.Proofs.YtpjjbaclphoilaaGreatDoorW.PrintLast Go.Proofs.YtpjjbaclphoilaaGreatDoorW.PrintMore
attribute [local go_sem] max2_int min2_int max_two min_two max_three min_three max_four min_four   -- for this text's walks alone
set_option linter.unusedVariables false
set_option linter.unusedSimpArgs false
set_option maxHeartbeats 8000000
set_option maxRecDepth 100000
theorem swapR.calls2 (B g cap len:Nat) (l:List S86) (a b n:Nat) (F:Value) (w:World) (hlen:l.length=len) (hr:RowE 86 3 encF w g cap l) (hg:B≤g) (ha:a+n≤len) (hb:b+n≤len):
  Calls Tryz.prog 183 #[.slice (some ⟨g,0,none⟩) len cap,.int .i64 a,.int .i64 b,.int .i64 n,F] w fun e w'=>e=.returned (.tuple #[])∧RowE 86 3 encF w' g cap (swapRL n l a b)∧Below B w w':=by
 subst hlen;exact swapR.calls B g cap l a b n F w hr hg ha hb
def rotGo {α:Type}:Nat→List α→Nat→Nat→Nat→List α
 | 0,l,_,_,_=>l
 | f+1,l,m,i,j=>if i=j then swapRL i l (m-i) m else if j<i then rotGo f (swapRL j l (m-i) m) m (i-j) j else rotGo f (swapRL i l (m-i) (m+j-i)) m i (j-i)
theorem rotGo_len {α:Type}:∀ (f:Nat) (l:List α) (m i j:Nat),(rotGo f l m i j).length=l.length
 | 0,l,m,i,j=>rfl
 | f+1,l,m,i,j=>by
  rw [rotGo]
  split
  ·rw [swapRL_len]
  split
  ·rw [rotGo_len f,swapRL_len]
  ·rw [rotGo_len f,swapRL_len]
theorem w_sub (m i len:Nat) (h:i≤m) (hm:m≤len) (hl:len≤maxLen):wrap64 ((m:Int)-(i:Int))=((m-i:Nat):Int)∧IntKind.i64.wrap ((m:Int)-(i:Int))=((m-i:Nat):Int):=by
 have e:wrap64 ((m:Int)-(i:Int))=((m-i:Nat):Int):=by unfold maxLen at hl;unfold wrap64;omega
 exact ⟨e,(i64_w _).trans e⟩
theorem w_adds (m j i len:Nat) (h:i≤m+j) (hm:m+j≤len) (hl:len≤maxLen):wrap64 ((m:Int)+(j:Int)-(i:Int))=((m+j-i:Nat):Int)∧IntKind.i64.wrap ((m:Int)+(j:Int)-(i:Int))=((m+j-i:Nat):Int):=by
 have e:wrap64 ((m:Int)+(j:Int)-(i:Int))=((m+j-i:Nat):Int):=by unfold maxLen at hl;unfold wrap64;omega
 exact ⟨e,(i64_w _).trans e⟩
theorem rot.calls (B g cap len:Nat) (l:List S86) (a m b:Nat) (F:Value) (w:World) (hlen:l.length=len) (hr:RowE 86 3 encF w g cap l) (hg:B≤g) (ha:a<m) (hb:m<b) (hbl:b≤len):
  Calls Tryz.prog 181 #[.slice (some ⟨g,0,none⟩) len cap,.int .i64 a,.int .i64 m,.int .i64 b,F] w fun e w'=>e=.returned (.tuple #[])∧RowE 86 3 encF w' g cap (rotGo (b-a) l m (m-a) (b-m))∧Below B w w':=by
 have HR0:=aM hr;have HG:=aM hg;have HL:=aM (And.intro ha (And.intro hb (And.intro hbl (And.intro hlen hr.len))));have E1:=aM (w_sub m a len (by omega) (by omega) (by have:=hr.len;omega));have E3:=aM (w_sub b m len (by omega) (by omega) (by have:=hr.len;omega));clear hr hg ha hb hbl hlen;obtain ⟨e1,e2⟩:=E1.out;obtain ⟨e3,e4⟩:=E3.out;go_enter Tryz.func181,Tryz.ntmps181;go_wp2
 go_loopw [10,11] (fun v10 v11 wr=>∃ (i j f:Nat) (l1:List S86),v10=.int .i64 i∧v11=.int .i64 j∧Hid (1≤i∧1≤j∧i≤m∧m+j≤len∧i+j≤f+1)∧Hid (l1.length=len)∧Hid (RowE 86 3 encF wr g cap l1)∧Hid (Below B w wr)∧Hid (rotGo (f+1) l1 m i j=rotGo (b-a) l m (m-a) (b-m))) (fun v10 v11 _=>(intOf v10).toNat+(intOf v11).toNat)
 case atStart=>
  have e:b-a-1+1=b-a:=by have:=HL.out;clear e1 e2 e3 e4;omega
  exact ⟨m-a,b-m,b-a-1,l,rfl,rfl,Lib.hid (by have:=HL.out;clear e1 e2 e3 e4;omega),Lib.hid HL.out.2.2.2.1,Lib.hid HR0.out,Lib.hid (Below.refl _ _),Lib.hid (by rw [e])⟩
 case round=>
  obtain ⟨i,j,f,l1,rfl,rfl,HI,HL1,HR,HB,HS⟩:=hrel;clear e1 e2 e3 e4
  by_cases hne:i=j
  ·subst hne
   have hs:=HS.out;rw [rotGo,if_pos rfl] at hs;have HS2:=Lib.hid hs;clear hs HS;have E1:=aM (w_sub m i len (by have:=HI.out;omega) (by have:=HI.out;omega) (by have:=HL.out;omega));have cS:=fun (W:World) (hW:W=wr)=>swapR.calls2 B g cap len l1 (m-i) m i F W HL1.out (hW ▸ HR.out) HG.out (by have:=HI.out;omega) (by have:=HI.out;omega)
   obtain ⟨e1,e2⟩:=E1.out;go_wp2_with (go_at_call 183;refine (cS _ rfl).mono ?_;rintro e w9 ⟨rfl,h9,b9⟩)
   go_end0
   exact ⟨rfl,by rw [← HS2.out];exact h9,HB.out.trans b9⟩
  ·by_cases hgt:j<i
   ·have hs:=HS.out
    rw [rotGo,if_neg hne,if_pos hgt] at hs;have HS2:=Lib.hid hs;have HJ:=Lib.hid hgt;clear hs HS;have b1:decide (i=j)=false:=dF hne;have b2:decide (j<i)=true:=dT hgt;have b3:decide ((i:Int)=(j:Int))=false:=dF (by omega);have b5:((i:Int) != (j:Int))=true:=bne_iff_ne.2 (by omega);have b4:decide ((j:Int)<(i:Int))=true:=dT (by omega);clear hne hgt;have E1:=aM (w_sub m i len (by have:=HI.out;omega) (by have:=HI.out;omega) (by have:=HL.out;omega));have E3:=aM (w_sub i j len (by have:=HJ.out;omega) (by have:=HI.out;omega) (by have:=HL.out;omega));have cS:=fun (W:World) (hW:W=wr)=>swapR.calls2 B g cap len l1 (m-i) m j F W HL1.out (hW ▸ HR.out) HG.out (by have:=HI.out;have:=HJ.out;omega) (by have:=HI.out;omega)
    obtain ⟨e1,e2⟩:=E1.out;obtain ⟨e3,e4⟩:=E3.out;go_wp2_with (go_at_call 183;refine (cS _ rfl).mono ?_;rintro e w9 ⟨rfl,h9,b9⟩)
    go_roundw
    case rel=>
     have e:f-1+1=f:=by have:=HI.out;have:=HJ.out;clear e1 e2 e3 e4;omega
     exact ⟨i-j,j,f-1,swapRL j l1 (m-i) m,rfl,rfl,Lib.hid (by have:=HI.out;have:=HJ.out;clear e1 e2 e3 e4;omega),Lib.hid (by rw [swapRL_len];exact HL1.out),Lib.hid h9,Lib.hid (HB.out.trans b9),Lib.hid (by rw [e];exact HS2.out)⟩
    case measure=>
     simp only [intOf];have:=HI.out;have:=HJ.out;clear e1 e2 e3 e4
     omega
   ·have hs:=HS.out
    rw [rotGo,if_neg hne,if_neg hgt] at hs;have HS2:=Lib.hid hs;have HJ:=Lib.hid (show i<j by omega);clear hs HS;have b1:decide (i=j)=false:=dF hne;have b2:decide (j<i)=false:=dF hgt;have b3:decide ((i:Int)=(j:Int))=false:=dF (by omega);have b5:((i:Int) != (j:Int))=true:=bne_iff_ne.2 (by omega);have b4:decide ((j:Int)<(i:Int))=false:=dF (by omega);clear hne hgt;have E1:=aM (w_sub m i len (by have:=HI.out;omega) (by have:=HI.out;omega) (by have:=HL.out;omega));have E3:=aM (w_sub j i len (by have:=HJ.out;omega) (by have:=HI.out;omega) (by have:=HL.out;omega));have E5:=aM (w_add m j len (by have:=HI.out;omega) (by have:=HL.out;omega));have E7:=aM (w_adds m j i len (by have:=HI.out;omega) (by have:=HI.out;omega) (by have:=HL.out;omega));have cS:=fun (W:World) (hW:W=wr)=>swapR.calls2 B g cap len l1 (m-i) (m+j-i) i F W HL1.out (hW ▸ HR.out) HG.out (by have:=HI.out;omega) (by have:=HI.out;omega)
    obtain ⟨e1,e2⟩:=E1.out;obtain ⟨e3,e4⟩:=E3.out;obtain ⟨e5,e6⟩:=E5.out;obtain ⟨e7,e8⟩:=E7.out;go_wp2_with (go_at_call 183;refine (cS _ rfl).mono ?_;rintro e w9 ⟨rfl,h9,b9⟩)
    go_roundw
    case rel=>
     have e:f-1+1=f:=by have:=HI.out;have:=HJ.out;clear e1 e2 e3 e4 e5 e6 e7 e8;omega
     exact ⟨i,j-i,f-1,swapRL i l1 (m-i) (m+j-i),rfl,rfl,Lib.hid (by have:=HI.out;have:=HJ.out;clear e1 e2 e3 e4 e5 e6 e7 e8;omega),Lib.hid (by rw [swapRL_len];exact HL1.out),Lib.hid h9,Lib.hid (HB.out.trans b9),Lib.hid (by rw [e];exact HS2.out)⟩
    case measure=>
     simp only [intOf];have:=HI.out;have:=HJ.out;clear e1 e2 e3 e4 e5 e6 e7 e8
     omega
def CmpF (w0:World) (c:Nat) (cf:S86→S86→Int) (ok:S86→Prop):Prop:=∀ W,Below w0.heap.size w0 W→∀ x y,ok x→ok y→Calls Tryz.prog c #[.agg #[.string x.f0,.int .i64 x.f1,.bool x.f2],.agg #[.string y.f0,.int .i64 y.f1,.bool y.f2]] W fun e w'=>e=.returned (.int .i64 (cf x y))∧Below W.heap.size W w'
def ltAt {α:Type} (cf:α→α→Int) (l:List α) (i j:Nat):Bool:=match l[i]?,l[j]? with
 | some x,some y=>decide (cf x y<0)
 | _,_=>false
theorem ltAt_eq {α:Type} {cf:α→α→Int} {l:List α} {i j:Nat} {x y:α} (hx:l[i]? = some x) (hy:l[j]? = some y):ltAt cf l i j=decide (cf x y<0):=by
 unfold ltAt;rw [hx,hy]
def insIn {α:Type} (cf:α→α→Int) (a:Nat):Nat→List α→List α
 | 0,l=>l
 | j+1,l=>if a<j+1 then (if ltAt cf l (j+1) j=true then insIn cf a j (swpL l (j+1) j) else l) else l
def insOut {α:Type} (cf:α→α→Int) (a:Nat):Nat→List α→Nat→List α
 | 0,l,_=>l
 | n+1,l,i=>insOut cf a n (insIn cf a i l) (i+1)
theorem insIn_len {α:Type} (cf:α→α→Int) (a:Nat):∀ (j:Nat) (l:List α),(insIn cf a j l).length=l.length
 | 0,l=>rfl
 | j+1,l=>by
  rw [insIn]
  split
  ·split
   ·rw [insIn_len cf a j,swpL_len]
   ·rfl
  ·rfl
theorem insOut_len {α:Type} (cf:α→α→Int) (a:Nat):∀ (n:Nat) (l:List α) (i:Nat),(insOut cf a n l i).length=l.length
 | 0,l,i=>rfl
 | n+1,l,i=>by rw [insOut,insOut_len cf a n,insIn_len]
theorem all_swpL {α:Type} {ok:α→Prop} {l:List α} (h:∀ x∈l,ok x) (i j:Nat):∀ x∈swpL l i j,ok x:=by
 unfold swpL
 split
 ·rename_i x y hx hy
  intro z hz
  rcases List.mem_or_eq_of_mem_set hz with hz|rfl
  ·rcases List.mem_or_eq_of_mem_set hz with hz|rfl
   ·exact h z hz
   ·exact h z (List.mem_of_getElem? hy)
  ·exact h z (List.mem_of_getElem? hx)
 ·exact h
theorem all_swapRL {α:Type} {ok:α→Prop}:∀ (n:Nat) {l:List α} (a b:Nat),(∀ x∈l,ok x)→∀ x∈swapRL n l a b,ok x
 | 0,l,a,b,h=>h
 | n+1,l,a,b,h=>all_swapRL n (a+1) (b+1) (all_swpL h a b)
theorem all_rotGo {α:Type} {ok:α→Prop}:∀ (f:Nat) {l:List α} (m i j:Nat),(∀ x∈l,ok x)→∀ x∈rotGo f l m i j,ok x
 | 0,l,m,i,j,h=>h
 | f+1,l,m,i,j,h=>by
  rw [rotGo]
  split
  ·exact all_swapRL _ _ _ h
  split
  ·exact all_rotGo f _ _ _ (all_swapRL _ _ _ h)
  ·exact all_rotGo f _ _ _ (all_swapRL _ _ _ h)
theorem all_insIn {α:Type} {ok:α→Prop} (cf:α→α→Int) (a:Nat):∀ (j:Nat) {l:List α},(∀ x∈l,ok x)→∀ x∈insIn cf a j l,ok x
 | 0,l,h=>h
 | j+1,l,h=>by
  rw [insIn]
  split
  ·split
   ·exact all_insIn cf a j (all_swpL h _ _)
   ·exact h
  ·exact h
theorem all_insOut {α:Type} {ok:α→Prop} (cf:α→α→Int) (a:Nat):∀ (n:Nat) {l:List α} (i:Nat),(∀ x∈l,ok x)→∀ x∈insOut cf a n l i,ok x
 | 0,l,i,h=>h
 | n+1,l,i,h=>all_insOut cf a n (i+1) (all_insIn cf a i h)
def insS.T4:Bool × List (List Nat × List Nat):=(true,[([],[]),([],[]),([0,1],[0,1]),([2],[2]),([3],[3]),([3],[3]),([3],[3]),([5,6,3],[3,5,6]),([7,3],[3,7]),([3],[3]),([3],[3]),([10,3],[3,10]),([9,11,3],[3,9,11]),([12,3],[3,12]),([4,8,13,3,3],[3,4,8,13]),([14,3],[3,14]),([3,15],[3,15])])
def insS.T6:Bool × List (List Nat × List Nat):=(true,[([],[]),([],[]),([],[]),([],[]),([3],[3]),([],[]),([],[]),([6],[6]),([5,7],[5,7]),([8],[8]),([],[]),([],[]),([10,11],[10,11]),([12],[12]),([0,1,0,1,5,6,7,8,9,13],[0,1]),([14,9,0,1,5,6,7,8,9,13],[9,14]),([2,4,0,1,2,3,4,5,6,7,8,9,10,11,12,13,14,15],[2,4]),([16,13,15,0,1,2,3,4,5,6,7,8,9,10,11,12,13,14,15],[13,16])])
theorem insS.tab4:rtab .any (opsOf Tryz.f175 4)=insS.T4:=by kernel_rfl
theorem insS.bits4:waitsOk insS.T4.2 (bitsOf insS.T4.2)=true:=by kernel_rfl
theorem insS.tab6:rtab .any (opsOf Tryz.f175 6)=insS.T6:=by kernel_rfl
theorem insS.bits6:waitsOk insS.T6.2 (bitsOf insS.T6.2)=true:=by kernel_rfl
theorem insS.calls (w0:World) (c g cap len:Nat) (l:List S86) (a b:Nat) (cf:S86→S86→Int) (ok:S86→Prop) (w:World) (eg:∀ args w,(callFunc c args).run Tryz.prog w=.ok (.enter c args) w) (hc:CmpF w0 c cf ok) (hok:∀ x∈l,ok x) (hlen:l.length=len) (hr:RowE 86 3 encF w g cap l) (hb0:Below w0.heap.size w0 w) (hg:w0.heap.size≤g) (hab:a≤b) (hb:b≤len) (hroom:len+1≤maxLen):
  Calls Tryz.prog 175 #[.slice (some ⟨g,0,none⟩) len cap,.int .i64 a,.int .i64 b,.func (.func c) #[] #[]] w fun e w'=>e=.returned (.tuple #[])∧RowE 86 3 encF w' g cap (insOut cf a (b-(a+1)) l (a+1))∧Below w0.heap.size w0 w':=by
 obtain ⟨ad,had⟩:∃ ad:Addr,ad=⟨g,0,none⟩:=⟨_,rfl⟩;rw [← had];have HAD:=aM had;clear had;have hu:=Tryz.underlying86;have HR0:=aM hr;have HB0:=aM hb0;have HG:=aM hg;have HC:=aM hc;have HOK:=aM hok;have HL:=aM (And.intro hab (And.intro hb (And.intro hlen hr.len)));have HROOM:=aM hroom;clear hr hg hab hb hlen hc hok hb0 hroom;go_enter Tryz.func175,Tryz.ntmps175;go_wp2
 go_loopw [8] (fun v8 wr=>∃ (i:Nat) (l1:List S86),v8=.int .i64 i∧Hid (a+1≤i∧(i≤b∨i=a+1))∧Hid (l1.length=len)∧Hid (∀ x∈l1,ok x)∧Hid (RowE 86 3 encF wr g cap l1)∧Hid (Below w0.heap.size w0 wr)∧Hid (insOut cf a (b-i) l1 i=insOut cf a (b-(a+1)) l (a+1))) (fun v8 _=>b-(intOf v8).toNat)
 case atStart=>exact ⟨a+1,l,by rw [w_one a (len+1) (by have:=HL.out;omega) (by have:=HL.out;have:=HROOM.out;omega)],Lib.hid ⟨Nat.le_refl _,.inr rfl⟩,Lib.hid HL.out.2.2.1,Lib.hid HOK.out,Lib.hid HR0.out,Lib.hid HB0.out,Lib.hid rfl⟩
 case round=>
  obtain ⟨i,l1,rfl,HI,HL1,HO1,HR,HB,HS⟩:=hrel
  by_cases hlt:i<b
  ·have b1:decide ((i:Int)<(b:Int))=true:=dT (by omega)
   have b2:decide (i<b)=true:=dT hlt;have HI2:=Lib.hid hlt;have hs:=HS.out;rw [show b-i=(b-(i+1))+1 by omega,insOut] at hs;have HS2:=Lib.hid hs;clear hs HS hlt;go_wp2
   go_loopw [9] (fun v9 wq=>∃ (j:Nat) (l2:List S86),v9=.int .i64 j∧Hid (j≤i)∧Hid (l2.length=len)∧Hid (∀ x∈l2,ok x)∧Hid (RowE 86 3 encF wq g cap l2)∧Hid (Below w0.heap.size w0 wq)∧Hid (insIn cf a j l2=insIn cf a i l1)) (fun v9 _=>(intOf v9).toNat)
   case atStart=>exact ⟨i,l1,rfl,Lib.hid (Nat.le_refl _),Lib.hid HL1.out,Lib.hid HO1.out,Lib.hid HR.out,Lib.hid HB.out,Lib.hid rfl⟩
   case round=>
    obtain ⟨j,l2,rfl,HJ,HL2,HO2,HRq,HBq,HSq⟩:=hrel;(try go_wp2);have HRd:=aM (HRq.out.below (w':=wr.drew) (below_drew (Below.refl _ _)));have HBd:=aM (below_drew HBq.out)
    by_cases hja:a<j
    ·have c1:decide ((a:Int)<(j:Int))=true:=dT (by omega)
     have c2:decide (a<j)=true:=dT hja;obtain ⟨x,hx⟩:∃ x,l2[j]? = some x:=⟨_,List.getElem?_eq_getElem (by have:=HJ.out;have:=HL2.out;have:=HI2.out;have:=HL.out;omega)⟩;obtain ⟨y,hy⟩:∃ y,l2[j-1]? = some y:=⟨_,List.getElem?_eq_getElem (by have:=HJ.out;have:=HL2.out;have:=HI2.out;have:=HL.out;omega)⟩;have pj:(0≤(j:Int))=True:=eq_true (by omega);have qj:((j:Int)<(len:Int))=True:=eq_true (by have:=HJ.out;have:=HI2.out;have:=HL.out;omega);have qj':(j<len)=True:=eq_true (by have:=HJ.out;have:=HI2.out;have:=HL.out;omega);have pk:(0≤((j-1:Nat):Int))=True:=eq_true (by omega);have qk:(((j-1:Nat):Int)<(len:Int))=True:=eq_true (by have:=HJ.out;have:=HI2.out;have:=HL.out;omega);have qk':(j-1<len)=True:=eq_true (by have:=HJ.out;have:=HI2.out;have:=HL.out;omega);have E1:=aM (w_dec j len (by omega) (by have:=HJ.out;have:=HI2.out;have:=HL.out;omega) (by have:=HL.out;omega));have HJA:=Lib.hid hja;have hs:=HSq.out;rw [show j=(j-1)+1 by omega,insIn,if_pos (by omega),show (j-1)+1=j by omega,ltAt_eq hx hy] at hs;have HSq2:=Lib.hid hs;clear hs HSq hja
     by_cases hc:cf x y<0
     ·have d1:decide (cf x y<0)=true:=dT hc
      have d2:(cf x y<0)=True:=eq_true hc;have d3:(0≤cf x y)=False:=eq_false (by omega);have HSq3:=Lib.hid HSq2.out;rw [dT hc,if_pos rfl] at HSq3;clear hc;obtain ⟨ax0,ax1,ax2⟩:=cellF HAD.out HRd.out hx;obtain ⟨ay0,ay1,ay2⟩:=cellF HAD.out HRd.out hy;obtain ⟨e1,e2⟩:=E1.out;refine start_ (n:=17) (S:=fun w'=>w'.cell? (ad.add (j * 3))=some (.string x.f0)∧w'.cell? ⟨(ad.add (j * 3)).block,(ad.add (j * 3)).off+1,none⟩=some (.int .i64 x.f1)∧w'.cell? ⟨(ad.add (j * 3)).block,(ad.add (j * 3)).off+2,none⟩=some (.bool x.f2)∧w'.cell? (ad.add ((j-1) * 3))=some (.string y.f0)∧w'.cell? ⟨(ad.add ((j-1) * 3)).block,(ad.add ((j-1) * 3)).off+1,none⟩=some (.int .i64 y.f1)∧w'.cell? ⟨(ad.add ((j-1) * 3)).block,(ad.add ((j-1) * 3)).off+2,none⟩=some (.bool y.f2)) (ds:=[]) (mkB 17 0) (by kernel_rfl) rfl rfl ⟨ax0,ax1,ax2,ay0,ay1,ay2⟩ (fun hHeld=>?_);refine with_tabW insS.tab4 insS.bits4 (fun HT_ HW_=>?_)
      generalize wr.drew=w6 at HRd HBd hHeld ax0 ax1 ax2 ay0 ay1 ay2 ⊢
      refine pureA 0 (some 18) (mkB 17 1) ?_;refine pureA 1 (some 19) (mkB 17 3) ?_;refine pureA 2 (some 20) (mkB 17 7) ?_;refine pureA 3 (some 21) (mkB 17 15) ?_;refine pureA 4 (some 22) (mkB 17 31) ?_;refine pureA 5 (some 23) (mkB 17 63) ?_;refine pureA 6 (some 24) (mkB 17 127) ?_;refine pureA 7 (some 25) (mkB 17 255) ?_;refine takeA 8 (some 26) (mkB 17 511) ?_ rfl (Or.inl ⟨by rfl,by rintro w' ⟨s0,s1,s2,s3,s4,s5⟩;go_simp;with_reducible rfl⟩);refine pureA 9 (some 27) (mkB 17 1023) ?_;refine pureA 10 (some 28) (mkB 17 2047) ?_;refine pureA 11 (some 29) (mkB 17 4095) ?_;refine pureA 12 (some 30) (mkB 17 8191) ?_;refine takeA 13 (some 31) (mkB 17 16383) ?_ rfl (Or.inl ⟨by rfl,by rintro w' ⟨s0,s1,s2,s3,s4,s5⟩;go_simp;with_reducible rfl⟩);refine oneA 14 (some 32) (mkB 17 32767) (fun K hK=>?_);refine call_ c #[.agg #[.string x.f0,.int .i64 x.f1,.bool x.f2],.agg #[.string y.f0,.int .i64 y.f1,.bool y.f2]] (by rfl) rfl (by go_simp;first|done|rfl|exact eg _ _) ?_;refine (HC.out _ HBd.out x y (HO2.out x (List.mem_of_getElem? hx)) (HO2.out y (List.mem_of_getElem? hy))).mono ?_;rintro e w7 ⟨rfl,hb⟩;refine ⟨_,rfl,?_⟩;have HR7:=aM (HRd.out.below hb);have HB7:=aM (below_step HBd.out hb);clear ax0 ax1 ax2 ay0 ay1 ay2 hHeld HRd HBd hb;obtain ⟨ax0,ax1,ax2⟩:=cellF HAD.out HR7.out hx;obtain ⟨ay0,ay1,ay2⟩:=cellF HAD.out HR7.out hy;refine hK.out _ _ ⟨ax0,ax1,ax2,ay0,ay1,ay2⟩ (fun hHeld=>?_);clear hK K;refine normA ?_;refine pureA 15 (some 33) (mkB 17 65535) ?_;refine pureA 16 (some 34) (mkB 17 131071) ?_;refine done_ (done_of HT_.out (by kernel_rfl)) ?_;clear hHeld ax0 ax1 ax2 ay0 ay1 ay2;go_wp2;have HRd:=aM (HR7.out.below (w':=w7.drew) (below_drew (Below.refl _ _)));have HBd:=aM (below_drew HB7.out);obtain ⟨ax0,ax1,ax2⟩:=cellF HAD.out HRd.out hx;obtain ⟨ay0,ay1,ay2⟩:=cellF HAD.out HRd.out hy;refine start_ (n:=18) (S:=fun w'=>w'.cell? (ad.add (j * 3))=some (.string x.f0)∧w'.cell? ⟨(ad.add (j * 3)).block,(ad.add (j * 3)).off+1,none⟩=some (.int .i64 x.f1)∧w'.cell? ⟨(ad.add (j * 3)).block,(ad.add (j * 3)).off+2,none⟩=some (.bool x.f2)∧w'.cell? (ad.add ((j-1) * 3))=some (.string y.f0)∧w'.cell? ⟨(ad.add ((j-1) * 3)).block,(ad.add ((j-1) * 3)).off+1,none⟩=some (.int .i64 y.f1)∧w'.cell? ⟨(ad.add ((j-1) * 3)).block,(ad.add ((j-1) * 3)).off+2,none⟩=some (.bool y.f2)) (ds:=[15,17]) (mkB 18 0) (by kernel_rfl) rfl rfl ⟨ax0,ax1,ax2,ay0,ay1,ay2⟩ (fun hHeld=>?_);refine with_tabW insS.tab6 insS.bits6 (fun HT_ HW_=>?_)
      generalize w7.drew=w6 at HRd HBd hHeld ax0 ax1 ax2 ay0 ay1 ay2 ⊢
      refine pureA 0 (some 37) (mkB 18 1) ?_;refine pureA 1 (some 38) (mkB 18 3) ?_;refine pureA 2 (some 39) (mkB 18 7) ?_;refine pureA 3 (some 40) (mkB 18 15) ?_;refine pureA 4 (some 41) (mkB 18 31) ?_;refine pureA 5 (some 42) (mkB 18 63) ?_;refine pureA 6 (some 43) (mkB 18 127) ?_;refine pureA 7 (some 44) (mkB 18 255) ?_;refine pureA 8 (some 45) (mkB 18 511) ?_;refine takeA 9 (some 46) (mkB 18 1023) ?_ rfl (Or.inl ⟨by rfl,by rintro w' ⟨s0,s1,s2,s3,s4,s5⟩;go_simp;with_reducible rfl⟩);refine pureA 10 (some 47) (mkB 18 2047) ?_;refine pureA 11 (some 48) (mkB 18 4095) ?_;refine pureA 12 (some 49) (mkB 18 8191) ?_;refine takeA 13 (some 50) (mkB 18 16383) ?_ rfl (Or.inl ⟨by rfl,by rintro w' ⟨s0,s1,s2,s3,s4,s5⟩;go_simp;with_reducible rfl⟩);refine pureA 14 (some 51) (mkB 18 32767) ?_;obtain ⟨ax0,fx0,ax1,fx1,ax2,fx2⟩:=storF HAD.out HRd.out hx y;refine last_ (i:=15) (N:=none) (mkB 18 65535) rfl rfl (one_of HT_.out (by kernel_rfl)) (by decide) (fun K hK=>?_);refine skip_ (w1:=?_) (by rfl) rfl ?_ ?_;rotate_left
      ·go_simp
       rfl
      refine hK.out _ _ ?_;clear hK K;have hlen:j<l2.length:=(List.getElem?_eq_some_iff.1 hx).1;have hlen2:(j-1)<l2.length:=(List.getElem?_eq_some_iff.1 hy).1;obtain ⟨HR7,HB7⟩:=putF HAD.out HRd.out HBd.out HG.out y hlen;clear ax0 ax1 ax2 ay0 ay1 ay2 fx0 fx1 fx2 hHeld HRd HBd
      generalize (((w6.setCell (ad.add (j * 3)) (.string y.f0)).setCell ⟨(ad.add (j * 3)).block,(ad.add (j * 3)).off+1,none⟩ (.int .i64 y.f1)).setCell ⟨(ad.add (j * 3)).block,(ad.add (j * 3)).off+2,none⟩ (.bool y.f2))=w7 at HR7 HB7 ⊢
      obtain ⟨z,hz⟩:∃ z,(l2.set (j) y)[(j-1)]? = some z:=⟨_,List.getElem?_eq_getElem (by rw [List.length_set];exact hlen2)⟩;refine pureA 16 (some 52) (mkB 18 131071) ?_;obtain ⟨cz0,fz0,cz1,fz1,cz2,fz2⟩:=storF HAD.out HR7 hz x;refine last_ (i:=17) (N:=none) (mkB 18 262143) rfl rfl (one_of HT_.out (by kernel_rfl)) (by decide) (fun K hK=>?_);refine skip_ (w1:=?_) (by rfl) rfl ?_ ?_;rotate_left
      ·go_simp
       rfl
      refine hK.out _ _ ?_;clear hK K;refine done_ (done_of HT_.out (by kernel_rfl)) ?_;obtain ⟨HR8,HB8⟩:=putF HAD.out HR7 HB7 HG.out x (by rw [List.length_set];exact hlen2);clear cz0 cz1 cz2 fz0 fz1 fz2 HR7 HB7
      generalize (((w7.setCell (ad.add ((j-1) * 3)) (.string x.f0)).setCell ⟨(ad.add ((j-1) * 3)).block,(ad.add ((j-1) * 3)).off+1,none⟩ (.int .i64 x.f1)).setCell ⟨(ad.add ((j-1) * 3)).block,(ad.add ((j-1) * 3)).off+2,none⟩ (.bool x.f2))=w8 at HR8 HB8 ⊢
      obtain ⟨e1,e2⟩:=E1.out;go_wp2
      go_roundw
      case rel=>exact ⟨j-1,swpL l2 j (j-1),rfl,Lib.hid (by have:=HJ.out;clear e1 e2;omega),Lib.hid (by rw [swpL_len];exact HL2.out),Lib.hid (all_swpL HO2.out _ _),Lib.hid (by rw [swpL_at hx hy];exact HR8),Lib.hid HB8,Lib.hid HSq3.out⟩
      case measure=>
       simp only [intOf];have:=HJA.out;clear e1 e2
       omega
     ·have d1:decide (cf x y<0)=false:=dF hc
      have d2:(cf x y<0)=False:=eq_false hc;have d3:(0≤cf x y)=True:=eq_true (by omega);have hs3:=HSq2.out;rw [dF hc,if_neg (by decide)] at hs3;have HSq3:=Lib.hid hs3;clear hs3 hc;obtain ⟨ax0,ax1,ax2⟩:=cellF HAD.out HRd.out hx;obtain ⟨ay0,ay1,ay2⟩:=cellF HAD.out HRd.out hy;obtain ⟨e1,e2⟩:=E1.out;refine start_ (n:=17) (S:=fun w'=>w'.cell? (ad.add (j * 3))=some (.string x.f0)∧w'.cell? ⟨(ad.add (j * 3)).block,(ad.add (j * 3)).off+1,none⟩=some (.int .i64 x.f1)∧w'.cell? ⟨(ad.add (j * 3)).block,(ad.add (j * 3)).off+2,none⟩=some (.bool x.f2)∧w'.cell? (ad.add ((j-1) * 3))=some (.string y.f0)∧w'.cell? ⟨(ad.add ((j-1) * 3)).block,(ad.add ((j-1) * 3)).off+1,none⟩=some (.int .i64 y.f1)∧w'.cell? ⟨(ad.add ((j-1) * 3)).block,(ad.add ((j-1) * 3)).off+2,none⟩=some (.bool y.f2)) (ds:=[]) (mkB 17 0) (by kernel_rfl) rfl rfl ⟨ax0,ax1,ax2,ay0,ay1,ay2⟩ (fun hHeld=>?_);refine with_tabW insS.tab4 insS.bits4 (fun HT_ HW_=>?_)
      generalize wr.drew=w6 at HRd HBd hHeld ax0 ax1 ax2 ay0 ay1 ay2 ⊢
      refine pureA 0 (some 18) (mkB 17 1) ?_;refine pureA 1 (some 19) (mkB 17 3) ?_;refine pureA 2 (some 20) (mkB 17 7) ?_;refine pureA 3 (some 21) (mkB 17 15) ?_;refine pureA 4 (some 22) (mkB 17 31) ?_;refine pureA 5 (some 23) (mkB 17 63) ?_;refine pureA 6 (some 24) (mkB 17 127) ?_;refine pureA 7 (some 25) (mkB 17 255) ?_;refine takeA 8 (some 26) (mkB 17 511) ?_ rfl (Or.inl ⟨by rfl,by rintro w' ⟨s0,s1,s2,s3,s4,s5⟩;go_simp;with_reducible rfl⟩);refine pureA 9 (some 27) (mkB 17 1023) ?_;refine pureA 10 (some 28) (mkB 17 2047) ?_;refine pureA 11 (some 29) (mkB 17 4095) ?_;refine pureA 12 (some 30) (mkB 17 8191) ?_;refine takeA 13 (some 31) (mkB 17 16383) ?_ rfl (Or.inl ⟨by rfl,by rintro w' ⟨s0,s1,s2,s3,s4,s5⟩;go_simp;with_reducible rfl⟩);refine oneA 14 (some 32) (mkB 17 32767) (fun K hK=>?_);refine call_ c #[.agg #[.string x.f0,.int .i64 x.f1,.bool x.f2],.agg #[.string y.f0,.int .i64 y.f1,.bool y.f2]] (by rfl) rfl (by go_simp;first|done|rfl|exact eg _ _) ?_;refine (HC.out _ HBd.out x y (HO2.out x (List.mem_of_getElem? hx)) (HO2.out y (List.mem_of_getElem? hy))).mono ?_;rintro e w7 ⟨rfl,hb⟩;refine ⟨_,rfl,?_⟩;have HR7:=aM (HRd.out.below hb);have HB7:=aM (below_step HBd.out hb);clear ax0 ax1 ax2 ay0 ay1 ay2 hHeld HRd HBd hb;obtain ⟨ax0,ax1,ax2⟩:=cellF HAD.out HR7.out hx;obtain ⟨ay0,ay1,ay2⟩:=cellF HAD.out HR7.out hy;refine hK.out _ _ ⟨ax0,ax1,ax2,ay0,ay1,ay2⟩ (fun hHeld=>?_);clear hK K;refine normA ?_;refine pureA 15 (some 33) (mkB 17 65535) ?_;refine pureA 16 (some 34) (mkB 17 131071) ?_;refine done_ (done_of HT_.out (by kernel_rfl)) ?_;clear hHeld ax0 ax1 ax2 ay0 ay1 ay2 e1 e2;have e3:=w_one i len (by have:=HI2.out;have:=HL.out;omega) (by have:=HL.out;omega);go_wp2
      go_roundw
      case rel=>exact ⟨i+1,l2,by rw [e3],Lib.hid (by have:=HI.out;have:=HI2.out;clear e3;omega),Lib.hid HL2.out,Lib.hid HO2.out,Lib.hid HR7.out,Lib.hid HB7.out,Lib.hid (by rw [HSq3.out];exact HS2.out)⟩
      case measure=>
       rw [e3];simp only [intOf];have:=HI2.out;clear e3
       omega
    ·have c1:decide ((a:Int)<(j:Int))=false:=dF (by omega)
     have c2:decide (a<j)=false:=dF hja
     have hs3:insIn cf a j l2=l2:=by
      cases j with
      | zero=>rfl
      | succ j=>rw [insIn,if_neg (by omega)]
     have HSq3:=Lib.hid (hs3.symm.trans HSq.out);clear hs3 hja HSq;refine start_ (n:=17) (S:=fun w'=>True) (ds:=[]) (mkB 17 0) (by kernel_rfl) rfl rfl trivial (fun hHeld=>?_);refine with_tabW insS.tab4 insS.bits4 (fun HT_ HW_=>?_)
     generalize wr.drew=w6 at HRd HBd hHeld ⊢
     refine pureA 0 (some 18) (mkB 17 1) ?_;refine pureA 1 (some 19) (mkB 17 3) ?_;refine pureA 2 (some 20) (mkB 17 7) ?_;refine pureA 3 (some 21) (mkB 17 15) ?_;refine pureU 4 (some 22) (mkB 17 31) ?_;refine pureU 5 (some 23) (mkB 17 63) ?_;refine pureU 6 (some 24) (mkB 17 127) ?_;refine pureU 7 (some 25) (mkB 17 255) ?_;refine pureU 8 (some 26) (mkB 17 511) ?_;refine pureU 9 (some 27) (mkB 17 1023) ?_;refine pureU 10 (some 28) (mkB 17 2047) ?_;refine pureU 11 (some 29) (mkB 17 4095) ?_;refine pureU 12 (some 30) (mkB 17 8191) ?_;refine pureU 13 (some 31) (mkB 17 16383) ?_;refine pureU 14 (some 32) (mkB 17 32767) ?_;refine pureU 15 (some 33) (mkB 17 65535) ?_;refine pureA 16 (some 34) (mkB 17 131071) ?_;refine done_ (done_of HT_.out (by kernel_rfl)) ?_;have e3:=w_one i len (by have:=HI2.out;have:=HL.out;omega) (by have:=HL.out;omega);go_wp2
     go_roundw
     case rel=>exact ⟨i+1,l2,by rw [e3],Lib.hid (by have:=HI.out;have:=HI2.out;clear e3;omega),Lib.hid HL2.out,Lib.hid HO2.out,Lib.hid HRd.out,Lib.hid HBd.out,Lib.hid (by rw [HSq3.out];exact HS2.out)⟩
     case measure=>
      rw [e3];simp only [intOf];have:=HI2.out;clear e3
      omega
  ·have b1:decide ((i:Int)<(b:Int))=false:=dF (by omega)
   have b2:decide (i<b)=false:=dF hlt;have hs:=HS.out;rw [show b-i=0 by omega,insOut] at hs;have HS2:=Lib.hid hs;clear hs HS hlt;go_wp2
   go_end0
   exact ⟨rfl,by rw [← HS2.out];exact HR.out,HB.out⟩
def bsL (p:Nat→Bool):Nat→Nat→Nat→Nat
 | 0,i,_=>i
 | f+1,i,j=>if i<j then (if p ((i+j) / 2)=true then bsL p f ((i+j) / 2+1) j else bsL p f i ((i+j) / 2)) else i
theorem bsL_same (p:Nat→Bool) (f i j:Nat) (h:¬ i<j):bsL p f i j=i:=by
 cases f with
 | zero=>rfl
 | succ f=>rw [bsL,if_neg h]
def upL {α:Type}:Nat→List α→Nat→List α
 | 0,l,_=>l
 | n+1,l,k=>upL n (swpL l k (k+1)) (k+1)
def dnL {α:Type}:Nat→List α→Nat→List α
 | 0,l,_=>l
 | n+1,l,k=>dnL n (swpL l k (k-1)) (k-1)
theorem w_half (i j h len:Nat) (hh:h=(i+j) / 2) (hm:i+j≤len) (hl:len≤maxLen):wrap64 (IntKind.u64.wrap ((i:Int)+(j:Int)) / 2)=(h:Int)∧IntKind.i64.wrap (IntKind.u64.wrap ((i:Int)+(j:Int)) / 2)=(h:Int):=by
 have e:wrap64 (IntKind.u64.wrap ((i:Int)+(j:Int)) / 2)=(h:Int):=by
  unfold maxLen at hl
  have e0:IntKind.u64.wrap ((i:Int)+(j:Int))=(i:Int)+(j:Int):=by
   simp [IntKind.wrap,IntKind.bits,IntKind.signed]
   omega
  rw [e0];unfold wrap64
  omega
 exact ⟨e,(i64_w _).trans e⟩
def symS.T5:Bool × List (List Nat × List Nat):=(true,[([],[]),([],[]),([],[]),([1,2],[1,2]),([3],[3]),([],[]),([],[]),([5,6],[5,6]),([7],[7]),([0,4,8],[0,4,8]),([9],[9])])
def symS.T11:Bool × List (List Nat × List Nat):=(true,[([],[]),([],[]),([],[]),([],[]),([3],[3]),([],[]),([],[]),([6],[6]),([5,7],[5,7]),([8],[8]),([],[]),([],[]),([10,11],[10,11]),([12],[12]),([0,1,0,1,5,6,7,8,9,13],[0,1]),([14,9,0,1,5,6,7,8,9,13],[9,14]),([2,4,0,1,2,3,4,5,6,7,8,9,10,11,12,13,14,15],[2,4]),([16,13,15,0,1,2,3,4,5,6,7,8,9,10,11,12,13,14,15],[13,16])])
theorem symS.tab5:rtab .any (opsOf Tryz.f176 5)=symS.T5:=by kernel_rfl
theorem symS.bits5:waitsOk symS.T5.2 (bitsOf symS.T5.2)=true:=by kernel_rfl
theorem symS.tab11:rtab .any (opsOf Tryz.f176 11)=symS.T11:=by kernel_rfl
theorem symS.bits11:waitsOk symS.T11.2 (bitsOf symS.T11.2)=true:=by kernel_rfl
theorem sym1.calls (w0:World) (c g cap len:Nat) (l:List S86) (a m b:Nat) (cf:S86→S86→Int) (ok:S86→Prop) (w:World) (eg:∀ args w,(callFunc c args).run Tryz.prog w=.ok (.enter c args) w) (hc:CmpF w0 c cf ok) (hok:∀ x∈l,ok x) (hlen:l.length=len) (hr:RowE 86 3 encF w g cap l) (hb0:Below w0.heap.size w0 w) (hg:w0.heap.size≤g) (ham:m=a+1) (hmb:m<b) (hb:b≤len) (hroom:2 * len+2≤maxLen):
  Calls Tryz.prog 176 #[.slice (some ⟨g,0,none⟩) len cap,.int .i64 a,.int .i64 m,.int .i64 b,.func (.func c) #[] #[]] w fun e w'=>e=.returned (.tuple #[])∧RowE 86 3 encF w' g cap (upL (bsL (fun h=>ltAt cf l h a) (b-m) m b-1-a) l a)∧Below w0.heap.size w0 w':=by
 obtain ⟨ad,had⟩:∃ ad:Addr,ad=⟨g,0,none⟩:=⟨_,rfl⟩;rw [← had];have HAD:=aM had;clear had;have hu:=Tryz.underlying86;obtain ⟨P,hP⟩:∃ P,P=(fun h=>ltAt cf l h a):=⟨_,rfl⟩;rw [← hP];have HP:=aM hP;have HR0:=aM hr;have HB0:=aM hb0;have HG:=aM hg;have HC:=aM hc;have HOK:=aM hok;have HL:=aM (And.intro ham (And.intro hmb (And.intro hb (And.intro hlen hr.len))));have HROOM:=aM hroom;have e1:wrap64 ((m:Int)-(a:Int))=1:=by have:=(w_sub m a len (by omega) (by omega) (by have:=hr.len;omega)).1;rw [this];omega
 have e2:IntKind.i64.wrap ((m:Int)-(a:Int))=1:=by have:=(w_sub m a len (by omega) (by omega) (by have:=hr.len;omega)).2;rw [this];omega
 have pa:(0≤(a:Int))=True:=eq_true (by clear e1 e2;omega);have qa:((a:Int)<(len:Int))=True:=eq_true (by clear e1 e2;omega);have qa':(a<len)=True:=eq_true (by clear e1 e2;omega);clear hP hr hg ham hmb hb hlen hc hok hb0 hroom;go_enter Tryz.func176,Tryz.ntmps176;go_wp2;clear e1 e2
 go_loopw [10,11] (fun v10 v11 wr=>∃ (i j f:Nat),v10=.int .i64 i∧v11=.int .i64 j∧Hid (m≤i∧i≤j∧j≤b∧j-i≤f)∧Hid (RowE 86 3 encF wr g cap l)∧Hid (Below w0.heap.size w0 wr)∧Hid (bsL P f i j=bsL P (b-m) m b)) (fun v10 v11 _=>(intOf v11).toNat-(intOf v10).toNat)
 case atStart=>exact ⟨m,b,b-m,rfl,rfl,Lib.hid (by have:=HL.out;omega),Lib.hid HR0.out,Lib.hid HB0.out,Lib.hid rfl⟩
 case round=>
  obtain ⟨i,j,f,rfl,rfl,HI,HR,HB,HS⟩:=hrel
  by_cases hij:i<j
  ·have b1:decide ((i:Int)<(j:Int))=true:=dT (by omega)
   have b2:decide (i<j)=true:=dT hij;obtain ⟨h,hh⟩:∃ h,h=(i+j) / 2:=⟨_,rfl⟩;have HH:=aM (show i≤h∧h<j by omega);have E0:=aM (w_add i j (2 * len) (by have:=HI.out;have:=HL.out;omega) (by have:=HROOM.out;omega));have E1:=aM (w_half i j h (2 * len) hh (by have:=HI.out;have:=HL.out;omega) (by have:=HROOM.out;omega));have E3:=aM (w_one h (len+1) (by have:=HH.out;have:=HI.out;have:=HL.out;omega) (by have:=HROOM.out;omega));obtain ⟨x,hx⟩:∃ x,l[h]? = some x:=⟨_,List.getElem?_eq_getElem (by have:=HH.out;have:=HI.out;have:=HL.out;omega)⟩;obtain ⟨y,hy⟩:∃ y,l[a]? = some y:=⟨_,List.getElem?_eq_getElem (by have:=HL.out;omega)⟩;have ph:(0≤(h:Int))=True:=eq_true (by omega);have qh:((h:Int)<(len:Int))=True:=eq_true (by have:=HH.out;have:=HI.out;have:=HL.out;omega);have qh':(h<len)=True:=eq_true (by have:=HH.out;have:=HI.out;have:=HL.out;omega);have hp:P h=decide (cf x y<0):=by rw [HP.out];exact ltAt_eq hx hy
   have hs:=HS.out;rw [show f=(f-1)+1 by have:=HI.out;omega,bsL,if_pos hij,← hh,hp] at hs;have HS2:=Lib.hid hs;clear hs HS hp hh hij;obtain ⟨e00,e01⟩:=E0.out;obtain ⟨e1,e2⟩:=E1.out
   by_cases hc:cf x y<0
   all_goals (
    first
    | (have d1:decide (cf x y<0)=true:=dT hc;have d2:(cf x y<0)=True:=eq_true hc;have d3:(0≤cf x y)=False:=eq_false (by clear e1 e2 e00 e01;omega);have hs3:=HS2.out;rw [dT hc,if_pos rfl] at hs3)
    | (have d1:decide (cf x y<0)=false:=dF hc;have d2:(cf x y<0)=False:=eq_false hc;have d3:(0≤cf x y)=True:=eq_true (by clear e1 e2 e00 e01;omega);have hs3:=HS2.out;rw [dF hc,if_neg (by decide)] at hs3)
    have HS3:=Lib.hid hs3;clear hs3 hc;go_wp2;clear e1 e2 e00 e01;have HRd:=aM (HR.out.below (w':=wr.drew) (below_drew (Below.refl _ _)));have HBd:=aM (below_drew HB.out);obtain ⟨ax0,ax1,ax2⟩:=cellF HAD.out HRd.out hx;obtain ⟨ay0,ay1,ay2⟩:=cellF HAD.out HRd.out hy;refine start_ (n:=11) (S:=fun w'=>w'.cell? (ad.add (h * 3))=some (.string x.f0)∧w'.cell? ⟨(ad.add (h * 3)).block,(ad.add (h * 3)).off+1,none⟩=some (.int .i64 x.f1)∧w'.cell? ⟨(ad.add (h * 3)).block,(ad.add (h * 3)).off+2,none⟩=some (.bool x.f2)∧w'.cell? (ad.add (a * 3))=some (.string y.f0)∧w'.cell? ⟨(ad.add (a * 3)).block,(ad.add (a * 3)).off+1,none⟩=some (.int .i64 y.f1)∧w'.cell? ⟨(ad.add (a * 3)).block,(ad.add (a * 3)).off+2,none⟩=some (.bool y.f2)) (ds:=[]) (mkB 11 0) (by kernel_rfl) rfl rfl ⟨ax0,ax1,ax2,ay0,ay1,ay2⟩ (fun hHeld=>?_);refine with_tabW symS.tab5 symS.bits5 (fun HT_ HW_=>?_)
    generalize wr.drew=w6 at HRd HBd hHeld ax0 ax1 ax2 ay0 ay1 ay2 ⊢
    refine pureA 0 (some 40) (mkB 11 1) ?_;refine pureA 1 (some 41) (mkB 11 3) ?_;refine pureA 2 (some 42) (mkB 11 7) ?_;refine pureA 3 (some 43) (mkB 11 15) ?_;refine takeA 4 (some 44) (mkB 11 31) ?_ rfl (Or.inl ⟨by rfl,by rintro w' ⟨s0,s1,s2,s3,s4,s5⟩;go_simp;with_reducible rfl⟩);refine pureA 5 (some 45) (mkB 11 63) ?_;refine pureA 6 (some 46) (mkB 11 127) ?_;refine pureA 7 (some 47) (mkB 11 255) ?_;refine takeA 8 (some 48) (mkB 11 511) ?_ rfl (Or.inl ⟨by rfl,by rintro w' ⟨s0,s1,s2,s3,s4,s5⟩;go_simp;with_reducible rfl⟩);refine oneA 9 (some 49) (mkB 11 1023) (fun K hK=>?_);refine call_ c #[.agg #[.string x.f0,.int .i64 x.f1,.bool x.f2],.agg #[.string y.f0,.int .i64 y.f1,.bool y.f2]] (by rfl) rfl (by go_simp;first|done|rfl|exact eg _ _) ?_;refine (HC.out _ HBd.out x y (HOK.out x (List.mem_of_getElem? hx)) (HOK.out y (List.mem_of_getElem? hy))).mono ?_;rintro e w7 ⟨rfl,hb⟩;refine ⟨_,rfl,?_⟩;have HR7:=aM (HRd.out.below hb);have HB7:=aM (below_step HBd.out hb);clear ax0 ax1 ax2 ay0 ay1 ay2 hHeld HRd HBd hb;obtain ⟨ax0,ax1,ax2⟩:=cellF HAD.out HR7.out hx;obtain ⟨ay0,ay1,ay2⟩:=cellF HAD.out HR7.out hy;refine hK.out _ _ ⟨ax0,ax1,ax2,ay0,ay1,ay2⟩ (fun hHeld=>?_);clear hK K;refine normA ?_;refine pureA 10 (some 50) (mkB 11 2047) ?_;refine done_ (done_of HT_.out (by kernel_rfl)) ?_;clear hHeld ax0 ax1 ax2 ay0 ay1 ay2;have e3:=E3.out;go_wp2
    go_roundw
    case rel=>first|exact ⟨h+1,j,f-1,by rw [e3],rfl,Lib.hid (by have:=HI.out;have:=HH.out;clear e3;omega),Lib.hid HR7.out,Lib.hid HB7.out,Lib.hid HS3.out⟩|exact ⟨i,h,f-1,rfl,rfl,Lib.hid (by have:=HI.out;have:=HH.out;clear e3;omega),Lib.hid HR7.out,Lib.hid HB7.out,Lib.hid HS3.out⟩
    case measure=>
     (try rw [e3]);simp only [intOf];have:=HH.out;clear e3
     omega)
  ·have b1:decide ((i:Int)<(j:Int))=false:=dF (by omega)
   have b2:decide (i<j)=false:=dF hij;have hs:=HS.out;rw [bsL_same P f i j hij] at hs;have HS2:=Lib.hid hs;clear hs HS hij;obtain ⟨q,hq⟩:∃ q,q=i-1:=⟨_,rfl⟩;have HQ:=aM (show a≤q∧q=i-1∧q+1≤len by have:=HI.out;have:=HL.out;omega);have EQ:=aM (w_dec i len (by have:=HI.out;have:=HL.out;omega) (by have:=HI.out;have:=HL.out;omega) (by have:=HL.out;omega));rw [← hq] at EQ;clear hq;go_wp2
   go_loopw [13] (fun v13 wq=>∃ (k:Nat) (l1:List S86),v13=.int .i64 k∧Hid (a≤k∧k≤q)∧Hid (l1.length=len)∧Hid (RowE 86 3 encF wq g cap l1)∧Hid (Below w0.heap.size w0 wq)∧Hid (upL (q-k) l1 k=upL (q-a) l a)) (fun v13 _=>q-(intOf v13).toNat)
   case atStart=>exact ⟨a,l,rfl,Lib.hid ⟨Nat.le_refl _,HQ.out.1⟩,Lib.hid HL.out.2.2.2.1,Lib.hid HR.out,Lib.hid HB.out,Lib.hid rfl⟩
   case round=>
    obtain ⟨k,l1,rfl,HK,HL1,HRq,HBq,HSq⟩:=hrel;obtain ⟨e3,e4⟩:=EQ.out
    by_cases hkq:k<q
    ·have c1:decide ((k:Int)<(q:Int))=true:=dT (by clear e3 e4;omega)
     have c2:decide (k<q)=true:=dT hkq;have HKQ:=Lib.hid hkq;obtain ⟨k2,hk2⟩:∃ k2,k2=k+1:=⟨_,rfl⟩;have HK2:=aM hk2;obtain ⟨x,hx⟩:∃ x,l1[k]? = some x:=⟨_,List.getElem?_eq_getElem (by have:=HQ.out;have:=HL1.out;clear e3 e4;omega)⟩;obtain ⟨y,hy⟩:∃ y,l1[k2]? = some y:=⟨_,List.getElem?_eq_getElem (by have:=HQ.out;have:=HL1.out;clear e3 e4;omega)⟩;have pk:(0≤(k:Int))=True:=eq_true (by clear e3 e4;omega);have qk:((k:Int)<(len:Int))=True:=eq_true (by have:=HQ.out;clear e3 e4;omega);have qk':(k<len)=True:=eq_true (by have:=HQ.out;clear e3 e4;omega);have pk2:(0≤(k2:Int))=True:=eq_true (by clear e3 e4;omega);have qk2:((k2:Int)<(len:Int))=True:=eq_true (by have:=HQ.out;clear e3 e4;omega);have qk2':(k2<len)=True:=eq_true (by have:=HQ.out;clear e3 e4;omega)
     have E5:=aM (show wrap64 ((k:Int)+1)=(k2:Int)∧IntKind.i64.wrap ((k:Int)+1)=(k2:Int) by
      have e:=w_one k len (by have:=HQ.out;clear e3 e4;omega) (by have:=HL.out;clear e3 e4;omega);rw [← hk2] at e
      exact ⟨e,(i64_w _).trans e⟩)
     have hs:=HSq.out;rw [show q-k=(q-k2)+1 by clear e3 e4;omega,upL,← hk2] at hs;have HSq2:=Lib.hid hs;clear hs HSq hkq hk2;go_wp2;clear e3 e4;obtain ⟨e5,e6⟩:=E5.out;have HRd:=aM (HRq.out.below (w':=wr.drew) (below_drew (Below.refl _ _)));have HBd:=aM (below_drew HBq.out);obtain ⟨ax0,ax1,ax2⟩:=cellF HAD.out HRd.out hx;obtain ⟨ay0,ay1,ay2⟩:=cellF HAD.out HRd.out hy;refine start_ (n:=18) (S:=fun w'=>w'.cell? (ad.add (k * 3))=some (.string x.f0)∧w'.cell? ⟨(ad.add (k * 3)).block,(ad.add (k * 3)).off+1,none⟩=some (.int .i64 x.f1)∧w'.cell? ⟨(ad.add (k * 3)).block,(ad.add (k * 3)).off+2,none⟩=some (.bool x.f2)∧w'.cell? (ad.add (k2 * 3))=some (.string y.f0)∧w'.cell? ⟨(ad.add (k2 * 3)).block,(ad.add (k2 * 3)).off+1,none⟩=some (.int .i64 y.f1)∧w'.cell? ⟨(ad.add (k2 * 3)).block,(ad.add (k2 * 3)).off+2,none⟩=some (.bool y.f2)) (ds:=[15,17]) (mkB 18 0) (by kernel_rfl) rfl rfl ⟨ax0,ax1,ax2,ay0,ay1,ay2⟩ (fun hHeld=>?_);refine with_tabW symS.tab11 symS.bits11 (fun HT_ HW_=>?_)
     generalize wr.drew=w6 at HRd HBd hHeld ax0 ax1 ax2 ay0 ay1 ay2 ⊢
     refine pureA 0 (some 61) (mkB 18 1) ?_;refine pureA 1 (some 62) (mkB 18 3) ?_;refine pureA 2 (some 63) (mkB 18 7) ?_;refine pureA 3 (some 64) (mkB 18 15) ?_;refine pureA 4 (some 65) (mkB 18 31) ?_;refine pureA 5 (some 66) (mkB 18 63) ?_;refine pureA 6 (some 67) (mkB 18 127) ?_;refine pureA 7 (some 68) (mkB 18 255) ?_;refine pureA 8 (some 69) (mkB 18 511) ?_;refine takeA 9 (some 70) (mkB 18 1023) ?_ rfl (Or.inl ⟨by rfl,by rintro w' ⟨s0,s1,s2,s3,s4,s5⟩;go_simp;with_reducible rfl⟩);refine pureA 10 (some 71) (mkB 18 2047) ?_;refine pureA 11 (some 72) (mkB 18 4095) ?_;refine pureA 12 (some 73) (mkB 18 8191) ?_;refine takeA 13 (some 74) (mkB 18 16383) ?_ rfl (Or.inl ⟨by rfl,by rintro w' ⟨s0,s1,s2,s3,s4,s5⟩;go_simp;with_reducible rfl⟩);refine pureA 14 (some 75) (mkB 18 32767) ?_;obtain ⟨ax0,fx0,ax1,fx1,ax2,fx2⟩:=storF HAD.out HRd.out hx y;refine last_ (i:=15) (N:=none) (mkB 18 65535) rfl rfl (one_of HT_.out (by kernel_rfl)) (by decide) (fun K hK=>?_);refine skip_ (w1:=?_) (by rfl) rfl ?_ ?_;rotate_left
     ·go_simp
      rfl
     refine hK.out _ _ ?_;clear hK K;have hlen:k<l1.length:=(List.getElem?_eq_some_iff.1 hx).1;have hlen2:k2<l1.length:=(List.getElem?_eq_some_iff.1 hy).1;obtain ⟨HR7,HB7⟩:=putF HAD.out HRd.out HBd.out HG.out y hlen;clear ax0 ax1 ax2 ay0 ay1 ay2 fx0 fx1 fx2 hHeld HRd HBd
     generalize (((w6.setCell (ad.add (k * 3)) (.string y.f0)).setCell ⟨(ad.add (k * 3)).block,(ad.add (k * 3)).off+1,none⟩ (.int .i64 y.f1)).setCell ⟨(ad.add (k * 3)).block,(ad.add (k * 3)).off+2,none⟩ (.bool y.f2))=w7 at HR7 HB7 ⊢
     obtain ⟨z,hz⟩:∃ z,(l1.set (k) y)[k2]? = some z:=⟨_,List.getElem?_eq_getElem (by rw [List.length_set];exact hlen2)⟩;refine pureA 16 (some 76) (mkB 18 131071) ?_;obtain ⟨cz0,fz0,cz1,fz1,cz2,fz2⟩:=storF HAD.out HR7 hz x;refine last_ (i:=17) (N:=none) (mkB 18 262143) rfl rfl (one_of HT_.out (by kernel_rfl)) (by decide) (fun K hK=>?_);refine skip_ (w1:=?_) (by rfl) rfl ?_ ?_;rotate_left
     ·go_simp
      rfl
     refine hK.out _ _ ?_;clear hK K;refine done_ (done_of HT_.out (by kernel_rfl)) ?_;obtain ⟨HR8,HB8⟩:=putF HAD.out HR7 HB7 HG.out x (by rw [List.length_set];exact hlen2);clear cz0 cz1 cz2 fz0 fz1 fz2 HR7 HB7
     generalize (((w7.setCell (ad.add (k2 * 3)) (.string x.f0)).setCell ⟨(ad.add (k2 * 3)).block,(ad.add (k2 * 3)).off+1,none⟩ (.int .i64 x.f1)).setCell ⟨(ad.add (k2 * 3)).block,(ad.add (k2 * 3)).off+2,none⟩ (.bool x.f2))=w8 at HR8 HB8 ⊢
     go_wp2
     go_roundw
     case rel=>exact ⟨k2,swpL l1 k k2,rfl,Lib.hid (by have:=HK.out;have:=HK2.out;have:=HKQ.out;clear e5 e6;omega),Lib.hid (by rw [swpL_len];exact HL1.out),Lib.hid (by rw [swpL_at hx hy];exact HR8),Lib.hid HB8,Lib.hid HSq2.out⟩
     case measure=>
      simp only [intOf];have:=HKQ.out;have:=HK2.out;clear e5 e6
      omega
    ·have c1:decide ((k:Int)<(q:Int))=false:=dF (by clear e3 e4;omega)
     have c2:decide (k<q)=false:=dF hkq;have hs:=HSq.out;rw [show q-k=0 by clear e3 e4;omega,upL] at hs;have HSq2:=Lib.hid hs;clear hs HSq hkq;go_wp2;clear e3 e4;refine bodyPost_ret (results_none rfl _ _ _) rfl ?_;exact ⟨rfl,by rw [← HS2.out,show i-1-a=q-a by have:=HQ.out;omega,← HSq2.out];exact HRq.out,HBq.out⟩
theorem dvar (m a d len:Nat) (hd:d=m-a) (h:a≤m) (hm:m≤len) (hl:len≤maxLen):wrap64 ((m:Int)-(a:Int))=(d:Int)∧IntKind.i64.wrap ((m:Int)-(a:Int))=(d:Int):=by
 rw [hd];exact w_sub m a len h hm hl
def symS.T17:Bool × List (List Nat × List Nat):=(true,[([],[]),([],[]),([],[]),([1,2],[1,2]),([3],[3]),([],[]),([],[]),([5,6],[5,6]),([7],[7]),([0,4,8],[0,4,8]),([9],[9]),([10],[10])])
theorem symS.tab17:rtab .any (opsOf Tryz.f176 17)=symS.T17:=by kernel_rfl
theorem symS.bits17:waitsOk symS.T17.2 (bitsOf symS.T17.2)=true:=by kernel_rfl
theorem symS.tab23:rtab .any (opsOf Tryz.f176 23)=symS.T11:=by kernel_rfl
theorem sym2.calls (w0:World) (c g cap len:Nat) (l:List S86) (a m b:Nat) (cf:S86→S86→Int) (ok:S86→Prop) (w:World) (eg:∀ args w,(callFunc c args).run Tryz.prog w=.ok (.enter c args) w) (hc:CmpF w0 c cf ok) (hok:∀ x∈l,ok x) (hlen:l.length=len) (hr:RowE 86 3 encF w g cap l) (hb0:Below w0.heap.size w0 w) (hg:w0.heap.size≤g) (ham:a+1<m) (hmb:b=m+1) (hb:b≤len) (hroom:2 * len+2≤maxLen):
  Calls Tryz.prog 176 #[.slice (some ⟨g,0,none⟩) len cap,.int .i64 a,.int .i64 m,.int .i64 b,.func (.func c) #[] #[]] w fun e w'=>e=.returned (.tuple #[])∧RowE 86 3 encF w' g cap (dnL (m-bsL (fun h=>!(ltAt cf l m h)) (m-a) a m) l m)∧Below w0.heap.size w0 w':=by
 obtain ⟨ad,had⟩:∃ ad:Addr,ad=⟨g,0,none⟩:=⟨_,rfl⟩;rw [← had];have HAD:=aM had;clear had;have hu:=Tryz.underlying86;obtain ⟨P,hP⟩:∃ P,P=(fun h=>!(ltAt cf l m h)):=⟨_,rfl⟩;rw [← hP];have HP:=aM hP;have HR0:=aM hr;have HB0:=aM hb0;have HG:=aM hg;have HC:=aM hc;have HOK:=aM hok;have HL:=aM (And.intro ham (And.intro hmb (And.intro hb (And.intro hlen hr.len))));have HROOM:=aM hroom;have ed:b-m=1:=by omega
 obtain ⟨d,hd⟩:∃ d,d=m-a:=⟨_,rfl⟩;have hd1:d≠1:=by omega
 have hd2:((d:Int)=1)=False:=eq_false (by omega);have hd3:decide ((d:Int)=1)=false:=dF (by omega);have hd4:(d=1)=False:=eq_false hd1;have hd5:decide (d=1)=false:=dF hd1;have hd6:((d:Int) == 1)=false:=by rw [beq_eq_false_iff_ne];omega
 have E1:=aM (dvar m a d len hd (by omega) (by omega) (by have:=hr.len;omega));have e3:wrap64 ((b:Int)-(m:Int))=1:=by have:=(w_sub b m len (by omega) (by omega) (by have:=hr.len;omega)).1;rw [this];omega
 have e4:IntKind.i64.wrap ((b:Int)-(m:Int))=1:=by have:=(w_sub b m len (by omega) (by omega) (by have:=hr.len;omega)).2;rw [this];omega
 have pa:(0≤(m:Int))=True:=eq_true (by clear e3 e4;omega);have qa:((m:Int)<(len:Int))=True:=eq_true (by clear e3 e4;omega);have qa':(m<len)=True:=eq_true (by clear e3 e4;omega);clear hP hr hg ham hmb hb hlen hc hok hb0 hroom ed hd hd1;obtain ⟨e1,e2⟩:=E1.out;go_enter Tryz.func176,Tryz.ntmps176;go_wp2;clear e1 e2 e3 e4
 go_loopw [14,15] (fun v10 v11 wr=>∃ (i j f:Nat),v10=.int .i64 i∧v11=.int .i64 j∧Hid (a≤i∧i≤j∧j≤m∧j-i≤f)∧Hid (RowE 86 3 encF wr g cap l)∧Hid (Below w0.heap.size w0 wr)∧Hid (bsL P f i j=bsL P (m-a) a m)) (fun v10 v11 _=>(intOf v11).toNat-(intOf v10).toNat)
 case atStart=>exact ⟨a,m,m-a,rfl,rfl,Lib.hid (by have:=HL.out;omega),Lib.hid HR0.out,Lib.hid HB0.out,Lib.hid rfl⟩
 case round=>
  obtain ⟨i,j,f,rfl,rfl,HI,HR,HB,HS⟩:=hrel
  by_cases hij:i<j
  ·have b1:decide ((i:Int)<(j:Int))=true:=dT (by omega)
   have b2:decide (i<j)=true:=dT hij;obtain ⟨h,hh⟩:∃ h,h=(i+j) / 2:=⟨_,rfl⟩;have HH:=aM (show i≤h∧h<j by omega);have E0:=aM (w_add i j (2 * len) (by have:=HI.out;have:=HL.out;omega) (by have:=HROOM.out;omega));have E1:=aM (w_half i j h (2 * len) hh (by have:=HI.out;have:=HL.out;omega) (by have:=HROOM.out;omega));have E3:=aM (w_one h (len+1) (by have:=HH.out;have:=HI.out;have:=HL.out;omega) (by have:=HROOM.out;omega));obtain ⟨x,hx⟩:∃ x,l[m]? = some x:=⟨_,List.getElem?_eq_getElem (by have:=HL.out;omega)⟩;obtain ⟨y,hy⟩:∃ y,l[h]? = some y:=⟨_,List.getElem?_eq_getElem (by have:=HH.out;have:=HI.out;have:=HL.out;omega)⟩;have ph:(0≤(h:Int))=True:=eq_true (by omega);have qh:((h:Int)<(len:Int))=True:=eq_true (by have:=HH.out;have:=HI.out;have:=HL.out;omega);have qh':(h<len)=True:=eq_true (by have:=HH.out;have:=HI.out;have:=HL.out;omega);have hp:P h=!(decide (cf x y<0)):=by rw [HP.out];exact congrArg (fun z=>!z) (ltAt_eq hx hy)
   have hs:=HS.out;rw [show f=(f-1)+1 by have:=HI.out;omega,bsL,if_pos hij,← hh,hp] at hs;have HS2:=Lib.hid hs;clear hs HS hp hh hij;obtain ⟨e00,e01⟩:=E0.out;obtain ⟨e1,e2⟩:=E1.out
   by_cases hc:cf x y<0
   all_goals (
    first
    | (have d1:decide (cf x y<0)=true:=dT hc;have d2:(cf x y<0)=True:=eq_true hc;have d3:(0≤cf x y)=False:=eq_false (by clear e1 e2 e00 e01;omega);have d4:decide (0≤cf x y)=false:=dF (by clear e1 e2 e00 e01;omega);have hs3:=HS2.out;rw [dT hc,if_neg (by decide)] at hs3)
    | (have d1:decide (cf x y<0)=false:=dF hc;have d2:(cf x y<0)=False:=eq_false hc;have d3:(0≤cf x y)=True:=eq_true (by clear e1 e2 e00 e01;omega);have d4:decide (0≤cf x y)=true:=dT (by clear e1 e2 e00 e01;omega);have hs3:=HS2.out;rw [dF hc,if_pos (by decide)] at hs3)
    have HS3:=Lib.hid hs3;clear hs3 hc;go_wp2;clear e1 e2 e00 e01;have HRd:=aM (HR.out.below (w':=wr.drew) (below_drew (Below.refl _ _)));have HBd:=aM (below_drew HB.out);obtain ⟨ax0,ax1,ax2⟩:=cellF HAD.out HRd.out hx;obtain ⟨ay0,ay1,ay2⟩:=cellF HAD.out HRd.out hy;refine start_ (n:=12) (S:=fun w'=>w'.cell? (ad.add (m * 3))=some (.string x.f0)∧w'.cell? ⟨(ad.add (m * 3)).block,(ad.add (m * 3)).off+1,none⟩=some (.int .i64 x.f1)∧w'.cell? ⟨(ad.add (m * 3)).block,(ad.add (m * 3)).off+2,none⟩=some (.bool x.f2)∧w'.cell? (ad.add (h * 3))=some (.string y.f0)∧w'.cell? ⟨(ad.add (h * 3)).block,(ad.add (h * 3)).off+1,none⟩=some (.int .i64 y.f1)∧w'.cell? ⟨(ad.add (h * 3)).block,(ad.add (h * 3)).off+2,none⟩=some (.bool y.f2)) (ds:=[]) (mkB 12 0) (by kernel_rfl) rfl rfl ⟨ax0,ax1,ax2,ay0,ay1,ay2⟩ (fun hHeld=>?_);refine with_tabW symS.tab17 symS.bits17 (fun HT_ HW_=>?_)
    generalize wr.drew=w6 at HRd HBd hHeld ax0 ax1 ax2 ay0 ay1 ay2 ⊢
    refine pureA 0 (some 92) (mkB 12 1) ?_;refine pureA 1 (some 93) (mkB 12 3) ?_;refine pureA 2 (some 94) (mkB 12 7) ?_;refine pureA 3 (some 95) (mkB 12 15) ?_;refine takeA 4 (some 96) (mkB 12 31) ?_ rfl (Or.inl ⟨by rfl,by rintro w' ⟨s0,s1,s2,s3,s4,s5⟩;go_simp;with_reducible rfl⟩);refine pureA 5 (some 97) (mkB 12 63) ?_;refine pureA 6 (some 98) (mkB 12 127) ?_;refine pureA 7 (some 99) (mkB 12 255) ?_;refine takeA 8 (some 100) (mkB 12 511) ?_ rfl (Or.inl ⟨by rfl,by rintro w' ⟨s0,s1,s2,s3,s4,s5⟩;go_simp;with_reducible rfl⟩);refine oneA 9 (some 101) (mkB 12 1023) (fun K hK=>?_);refine call_ c #[.agg #[.string x.f0,.int .i64 x.f1,.bool x.f2],.agg #[.string y.f0,.int .i64 y.f1,.bool y.f2]] (by rfl) rfl (by go_simp;first|done|rfl|exact eg _ _) ?_;refine (HC.out _ HBd.out x y (HOK.out x (List.mem_of_getElem? hx)) (HOK.out y (List.mem_of_getElem? hy))).mono ?_;rintro e w7 ⟨rfl,hb⟩;refine ⟨_,rfl,?_⟩;have HR7:=aM (HRd.out.below hb);have HB7:=aM (below_step HBd.out hb);clear ax0 ax1 ax2 ay0 ay1 ay2 hHeld HRd HBd hb;obtain ⟨ax0,ax1,ax2⟩:=cellF HAD.out HR7.out hx;obtain ⟨ay0,ay1,ay2⟩:=cellF HAD.out HR7.out hy;refine hK.out _ _ ⟨ax0,ax1,ax2,ay0,ay1,ay2⟩ (fun hHeld=>?_);clear hK K;refine normA ?_;refine pureA 10 (some 102) (mkB 12 2047) ?_;refine pureA 11 (some 103) (mkB 12 4095) ?_;refine done_ (done_of HT_.out (by kernel_rfl)) ?_;clear hHeld ax0 ax1 ax2 ay0 ay1 ay2;have e3:=E3.out;go_wp2
    go_roundw
    case rel=>first|exact ⟨i,h,f-1,rfl,rfl,Lib.hid (by have:=HI.out;have:=HH.out;clear e3;omega),Lib.hid HR7.out,Lib.hid HB7.out,Lib.hid HS3.out⟩|exact ⟨h+1,j,f-1,by rw [e3],rfl,Lib.hid (by have:=HI.out;have:=HH.out;clear e3;omega),Lib.hid HR7.out,Lib.hid HB7.out,Lib.hid HS3.out⟩
    case measure=>
     (try rw [e3]);simp only [intOf];have:=HH.out;clear e3
     omega)
  ·have b1:decide ((i:Int)<(j:Int))=false:=dF (by omega)
   have b2:decide (i<j)=false:=dF hij;have hs:=HS.out;rw [bsL_same P f i j hij] at hs;have HS2:=Lib.hid hs;clear hs HS hij;go_wp2
   go_loopw [17] (fun v17 wq=>∃ (k:Nat) (l1:List S86),v17=.int .i64 k∧Hid (i≤k∧k≤m)∧Hid (l1.length=len)∧Hid (RowE 86 3 encF wq g cap l1)∧Hid (Below w0.heap.size w0 wq)∧Hid (dnL (k-i) l1 k=dnL (m-i) l m)) (fun v17 _=>(intOf v17).toNat)
   case atStart=>exact ⟨m,l,rfl,Lib.hid (by have:=HI.out;omega),Lib.hid HL.out.2.2.2.1,Lib.hid HR.out,Lib.hid HB.out,Lib.hid rfl⟩
   case round=>
    obtain ⟨k,l1,rfl,HK,HL1,HRq,HBq,HSq⟩:=hrel
    by_cases hkq:i<k
    ·have c1:decide ((i:Int)<(k:Int))=true:=dT (by omega)
     have c2:decide (i<k)=true:=dT hkq;have HKQ:=Lib.hid hkq;obtain ⟨k2,hk2⟩:∃ k2,k2=k-1:=⟨_,rfl⟩;have HK2:=aM hk2;obtain ⟨x,hx⟩:∃ x,l1[k]? = some x:=⟨_,List.getElem?_eq_getElem (by have:=HL.out;have:=HK.out;have:=HL1.out;omega)⟩;obtain ⟨y,hy⟩:∃ y,l1[k2]? = some y:=⟨_,List.getElem?_eq_getElem (by have:=HL.out;have:=HK.out;have:=HL1.out;omega)⟩;have pk:(0≤(k:Int))=True:=eq_true (by omega);have qk:((k:Int)<(len:Int))=True:=eq_true (by have:=HL.out;have:=HK.out;omega);have qk':(k<len)=True:=eq_true (by have:=HL.out;have:=HK.out;omega);have pk2:(0≤(k2:Int))=True:=eq_true (by omega);have qk2:((k2:Int)<(len:Int))=True:=eq_true (by have:=HL.out;have:=HK.out;omega);have qk2':(k2<len)=True:=eq_true (by have:=HL.out;have:=HK.out;omega)
     have E5:=aM (show wrap64 ((k:Int)-1)=(k2:Int)∧IntKind.i64.wrap ((k:Int)-1)=(k2:Int) by
      rw [hk2]
      exact w_dec k len (by omega) (by have:=HL.out;have:=HK.out;omega) (by have:=HL.out;omega))
     have hs:=HSq.out;rw [show k-i=(k2-i)+1 by omega,dnL,← hk2] at hs;have HSq2:=Lib.hid hs;clear hs HSq hkq hk2;go_wp2;obtain ⟨e5,e6⟩:=E5.out;have HRd:=aM (HRq.out.below (w':=wr.drew) (below_drew (Below.refl _ _)));have HBd:=aM (below_drew HBq.out);obtain ⟨ax0,ax1,ax2⟩:=cellF HAD.out HRd.out hx;obtain ⟨ay0,ay1,ay2⟩:=cellF HAD.out HRd.out hy;refine start_ (n:=18) (S:=fun w'=>w'.cell? (ad.add (k * 3))=some (.string x.f0)∧w'.cell? ⟨(ad.add (k * 3)).block,(ad.add (k * 3)).off+1,none⟩=some (.int .i64 x.f1)∧w'.cell? ⟨(ad.add (k * 3)).block,(ad.add (k * 3)).off+2,none⟩=some (.bool x.f2)∧w'.cell? (ad.add (k2 * 3))=some (.string y.f0)∧w'.cell? ⟨(ad.add (k2 * 3)).block,(ad.add (k2 * 3)).off+1,none⟩=some (.int .i64 y.f1)∧w'.cell? ⟨(ad.add (k2 * 3)).block,(ad.add (k2 * 3)).off+2,none⟩=some (.bool y.f2)) (ds:=[15,17]) (mkB 18 0) (by kernel_rfl) rfl rfl ⟨ax0,ax1,ax2,ay0,ay1,ay2⟩ (fun hHeld=>?_);refine with_tabW symS.tab23 symS.bits11 (fun HT_ HW_=>?_)
     generalize wr.drew=w6 at HRd HBd hHeld ax0 ax1 ax2 ay0 ay1 ay2 ⊢
     refine pureA 0 (some 113) (mkB 18 1) ?_;refine pureA 1 (some 114) (mkB 18 3) ?_;refine pureA 2 (some 115) (mkB 18 7) ?_;refine pureA 3 (some 116) (mkB 18 15) ?_;refine pureA 4 (some 117) (mkB 18 31) ?_;refine pureA 5 (some 118) (mkB 18 63) ?_;refine pureA 6 (some 119) (mkB 18 127) ?_;refine pureA 7 (some 120) (mkB 18 255) ?_;refine pureA 8 (some 121) (mkB 18 511) ?_;refine takeA 9 (some 122) (mkB 18 1023) ?_ rfl (Or.inl ⟨by rfl,by rintro w' ⟨s0,s1,s2,s3,s4,s5⟩;go_simp;with_reducible rfl⟩);refine pureA 10 (some 123) (mkB 18 2047) ?_;refine pureA 11 (some 124) (mkB 18 4095) ?_;refine pureA 12 (some 125) (mkB 18 8191) ?_;refine takeA 13 (some 126) (mkB 18 16383) ?_ rfl (Or.inl ⟨by rfl,by rintro w' ⟨s0,s1,s2,s3,s4,s5⟩;go_simp;with_reducible rfl⟩);refine pureA 14 (some 127) (mkB 18 32767) ?_;obtain ⟨ax0,fx0,ax1,fx1,ax2,fx2⟩:=storF HAD.out HRd.out hx y;refine last_ (i:=15) (N:=none) (mkB 18 65535) rfl rfl (one_of HT_.out (by kernel_rfl)) (by decide) (fun K hK=>?_);refine skip_ (w1:=?_) (by rfl) rfl ?_ ?_;rotate_left
     ·go_simp
      rfl
     refine hK.out _ _ ?_;clear hK K;have hlen:k<l1.length:=(List.getElem?_eq_some_iff.1 hx).1;have hlen2:k2<l1.length:=(List.getElem?_eq_some_iff.1 hy).1;obtain ⟨HR7,HB7⟩:=putF HAD.out HRd.out HBd.out HG.out y hlen;clear ax0 ax1 ax2 ay0 ay1 ay2 fx0 fx1 fx2 hHeld HRd HBd
     generalize (((w6.setCell (ad.add (k * 3)) (.string y.f0)).setCell ⟨(ad.add (k * 3)).block,(ad.add (k * 3)).off+1,none⟩ (.int .i64 y.f1)).setCell ⟨(ad.add (k * 3)).block,(ad.add (k * 3)).off+2,none⟩ (.bool y.f2))=w7 at HR7 HB7 ⊢
     obtain ⟨z,hz⟩:∃ z,(l1.set (k) y)[k2]? = some z:=⟨_,List.getElem?_eq_getElem (by rw [List.length_set];exact hlen2)⟩;refine pureA 16 (some 128) (mkB 18 131071) ?_;obtain ⟨cz0,fz0,cz1,fz1,cz2,fz2⟩:=storF HAD.out HR7 hz x;refine last_ (i:=17) (N:=none) (mkB 18 262143) rfl rfl (one_of HT_.out (by kernel_rfl)) (by decide) (fun K hK=>?_);refine skip_ (w1:=?_) (by rfl) rfl ?_ ?_;rotate_left
     ·go_simp
      rfl
     refine hK.out _ _ ?_;clear hK K;refine done_ (done_of HT_.out (by kernel_rfl)) ?_;obtain ⟨HR8,HB8⟩:=putF HAD.out HR7 HB7 HG.out x (by rw [List.length_set];exact hlen2);clear cz0 cz1 cz2 fz0 fz1 fz2 HR7 HB7
     generalize (((w7.setCell (ad.add (k2 * 3)) (.string x.f0)).setCell ⟨(ad.add (k2 * 3)).block,(ad.add (k2 * 3)).off+1,none⟩ (.int .i64 x.f1)).setCell ⟨(ad.add (k2 * 3)).block,(ad.add (k2 * 3)).off+2,none⟩ (.bool x.f2))=w8 at HR8 HB8 ⊢
     go_wp2
     go_roundw
     case rel=>exact ⟨k2,swpL l1 k k2,rfl,Lib.hid (by have:=HK.out;have:=HK2.out;have:=HKQ.out;clear e5 e6;omega),Lib.hid (by rw [swpL_len];exact HL1.out),Lib.hid (by rw [swpL_at hx hy];exact HR8),Lib.hid HB8,Lib.hid HSq2.out⟩
     case measure=>
      simp only [intOf];have:=HKQ.out;have:=HK2.out;clear e5 e6
      omega
    ·have c1:decide ((i:Int)<(k:Int))=false:=dF (by omega)
     have c2:decide (i<k)=false:=dF hkq;have hs:=HSq.out;rw [show k-i=0 by omega,dnL] at hs;have HSq2:=Lib.hid hs;clear hs HSq hkq;go_wp2;refine bodyPost_ret (results_none rfl _ _ _) rfl ?_;exact ⟨rfl,by rw [← HS2.out,← HSq2.out];exact HRq.out,HBq.out⟩
theorem dTn {x y:Nat} (h:x<y):decide ((x:Int)<(y:Int))=true∧decide (x<y)=true:=⟨dT (by omega),dT h⟩
theorem dFn {x y:Nat} (h:¬ x<y):decide ((x:Int)<(y:Int))=false∧decide (x<y)=false:=⟨dF (by omega),dF h⟩
theorem tri (x y z:Nat):(Hid (x<y∧y<z)∧(decide ((x:Int)<(y:Int))=true∧decide (x<y)=true)∧(decide ((y:Int)<(z:Int))=true∧decide (y<z)=true))∨(Hid (¬ (x<y∧y<z))∧(decide ((x:Int)<(y:Int))=true∧decide (x<y)=true)∧(decide ((y:Int)<(z:Int))=false∧decide (y<z)=false))∨(Hid (¬ (x<y∧y<z))∧(decide ((x:Int)<(y:Int))=false∧decide (x<y)=false)):=by
 by_cases h:x<y
 ·by_cases k:y<z
  ·exact Or.inl ⟨Lib.hid ⟨h,k⟩,dTn h,dTn k⟩
  ·exact Or.inr (Or.inl ⟨Lib.hid (fun q=>k q.2),dTn h,dFn k⟩)
 ·exact Or.inr (Or.inr ⟨Lib.hid (fun q=>h q.1),dFn h⟩)
def symTail {α:Type} (R:List α→Nat→Nat→Nat→List α) (l:List α) (a m b mid s e:Nat):List α:=
 if mid<e∧e<b then R (if a<s∧s<mid then R (if s<m∧m<e then rotGo (e-s) l m (m-s) (e-m) else l) a s mid else (if s<m∧m<e then rotGo (e-s) l m (m-s) (e-m) else l)) mid e b else (if a<s∧s<mid then R (if s<m∧m<e then rotGo (e-s) l m (m-s) (e-m) else l) a s mid else (if s<m∧m<e then rotGo (e-s) l m (m-s) (e-m) else l))
def symS0 (a m b:Nat):Nat:=if (a+b) / 2<m then (a+b) / 2+m-b else a
def symR0 (a m b:Nat):Nat:=if (a+b) / 2<m then (a+b) / 2 else m
def symAt {α:Type} (cf:α→α→Int) (l:List α) (a m b:Nat):Nat:=bsL (fun h=>!(ltAt cf l ((a+b) / 2+m-1-h) h)) (symR0 a m b-symS0 a m b) (symS0 a m b) (symR0 a m b)
def symBig {α:Type} (cf:α→α→Int) (R:List α→Nat→Nat→Nat→List α) (l:List α) (a m b:Nat):List α:=symTail R l a m b ((a+b) / 2) (symAt cf l a m b) ((a+b) / 2+m-symAt cf l a m b)
def symS.T35:Bool × List (List Nat × List Nat):=(true,[([],[]),([],[]),([],[]),([],[]),([2,3],[2,3]),([1,4],[1,4]),([5],[5]),([],[]),([],[]),([7,8],[7,8]),([9],[9]),([0,6,10],[0,6,10]),([11],[11]),([12],[12])])
theorem symS.tab35:rtab .any (opsOf Tryz.f176 35)=symS.T35:=by kernel_rfl
theorem symS.bits35:waitsOk symS.T35.2 (bitsOf symS.T35.2)=true:=by kernel_rfl
theorem sym3.calls (w0:World) (c g cap len:Nat) (R:List S86→Nat→Nat→Nat→List S86) (l:List S86) (a m b:Nat) (cf:S86→S86→Int) (ok:S86→Prop) (w:World) (eg:∀ args w,(callFunc c args).run Tryz.prog w=.ok (.enter c args) w) (hc:CmpF w0 c cf ok) (hok:∀ x∈l,ok x) (hlen:l.length=len) (hr:RowE 86 3 encF w g cap l) (hb0:Below w0.heap.size w0 w) (hg:w0.heap.size≤g) (ham:a+1<m) (hmb:m+1<b) (hb:b≤len) (hroom:2 * len+2≤maxLen)
  (hrok:∀ l a m b,(∀ x∈l,ok x)→∀ x∈R l a m b,ok x) (hrlen:∀ l a m b,(R l a m b).length=l.length)
  (hrec:∀ (l:List S86) (a' m' b':Nat) (W:World),a'<m'→m'<b'→b'-a'<b-a→b'≤len→(∀ x∈l,ok x)→l.length=len→RowE 86 3 encF W g cap l→Below w0.heap.size w0 W→Calls Tryz.prog 176 #[.slice (some ⟨g,0,none⟩) len cap,.int .i64 a',.int .i64 m',.int .i64 b',.func (.func c) #[] #[]] W fun e w'=>e=.returned (.tuple #[])∧RowE 86 3 encF w' g cap (R l a' m' b')∧Below w0.heap.size w0 w'):
  Calls Tryz.prog 176 #[.slice (some ⟨g,0,none⟩) len cap,.int .i64 a,.int .i64 m,.int .i64 b,.func (.func c) #[] #[]] w fun e w'=>e=.returned (.tuple #[])∧RowE 86 3 encF w' g cap (symBig cf R l a m b)∧Below w0.heap.size w0 w':=by
 have hrot:∀ (l2:List S86) (s m e:Nat) (W:World),l2.length=len→RowE 86 3 encF W g cap l2→s<m→m<e→e≤len→Calls Tryz.prog 181 #[.slice (some ⟨g,0,none⟩) len cap,.int .i64 s,.int .i64 m,.int .i64 e,.func (.func c) #[] #[]] W fun e' w'=>e'=.returned (.tuple #[])∧RowE 86 3 encF w' g cap (rotGo (e-s) l2 m (m-s) (e-m))∧Below w0.heap.size W w':=fun l2 s m e W h1 h2 h3 h4 h5=>rot.calls w0.heap.size g cap len l2 s m e _ W h1 h2 hg h3 h4 h5
 obtain ⟨ad,had⟩:∃ ad:Addr,ad=⟨g,0,none⟩:=⟨_,rfl⟩;rw [← had] at hrot hrec;rw [← had];have HAD:=aM had;clear had;have hu:=Tryz.underlying86;obtain ⟨mid,hmid⟩:∃ mid,mid=(a+b) / 2:=⟨_,rfl⟩;obtain ⟨n,hn⟩:∃ n,n=mid+m:=⟨_,rfl⟩;obtain ⟨p,hp⟩:∃ p,p=n-1:=⟨_,rfl⟩;obtain ⟨s0,hs0⟩:∃ s0,s0=symS0 a m b:=⟨_,rfl⟩;obtain ⟨r0,hr0⟩:∃ r0,r0=symR0 a m b:=⟨_,rfl⟩;obtain ⟨P,hP⟩:∃ P,P=(fun h=>!(ltAt cf l (p-h) h)):=⟨_,rfl⟩
 have hbig:symBig cf R l a m b=symTail R l a m b mid (bsL P (r0-s0) s0 r0) (n-bsL P (r0-s0) s0 r0):=by
  subst hP hp hn hmid hs0 hr0;rfl
 rw [hbig];have hs1:s0=if mid<m then n-b else a:=by subst hn hmid hs0;rfl
 have hr1:r0=if mid<m then mid else m:=by subst hmid hr0;rfl
 have HP:=aM hP;have HR0:=aM hr;have HB0:=aM hb0;have HG:=aM hg;have HC:=aM hc;have HOK:=aM hok;have HROT:=aM hrot;have HREC:=aM hrec;have HROK:=aM hrok;have HRLEN:=aM hrlen;have HL:=aM (And.intro ham (And.intro hmb (And.intro hb (And.intro hlen hr.len))));have HM:=aM (show mid-a<b-a∧mid≤len∧b-mid<b-a∧b≤len by omega);have HN:=aM (show n=mid+m∧p=n-1∧a≤mid∧mid<b∧n≤2 * len by omega);have HROOM:=aM hroom
 have HW:Aside0 (a≤s0∧s0≤r0∧r0≤m∧(∀ h,s0≤h→h<r0→p-h<len∧h≤p)∧n-b≤s0∧s0≤n∧r0≤n):=by
  refine aM ?_
  by_cases h:mid<m
  ·rw [if_pos h] at hs1 hr1
   refine ⟨by omega,by omega,by omega,fun h _ _=>by omega,by omega,by omega,by omega⟩
  ·rw [if_neg h] at hs1 hr1
   refine ⟨by omega,by omega,by omega,fun h _ _=>by omega,by omega,by omega,by omega⟩
 obtain ⟨d,hd⟩:∃ d,d=m-a:=⟨_,rfl⟩;have hd1:d≠1:=by omega
 have hd2:((d:Int)=1)=False:=eq_false (by omega);have hd3:decide ((d:Int)=1)=false:=dF (by omega);have hd4:(d=1)=False:=eq_false hd1;have hd5:decide (d=1)=false:=dF hd1;have hd6:((d:Int) == 1)=false:=by rw [beq_eq_false_iff_ne];omega
 obtain ⟨d',hd'⟩:∃ d',d'=b-m:=⟨_,rfl⟩;have hd1':d'≠1:=by omega
 have hd2':((d':Int)=1)=False:=eq_false (by omega);have hd3':decide ((d':Int)=1)=false:=dF (by omega);have hd4':(d'=1)=False:=eq_false hd1';have hd5':decide (d'=1)=false:=dF hd1';have hd6':((d':Int) == 1)=false:=by rw [beq_eq_false_iff_ne];omega
 have E1:=aM (dvar m a d len hd (by omega) (by omega) (by have:=hr.len;omega));have E2:=aM (dvar b m d' len hd' (by omega) (by omega) (by have:=hr.len;omega));have E3:=aM (w_add a b (2 * len) (by omega) (by omega));have E4:=aM (w_half a b mid (2 * len) hmid (by omega) (by omega))
 have E5:Aside0 (wrap64 ((mid:Int)+(m:Int))=(n:Int)∧IntKind.i64.wrap ((mid:Int)+(m:Int))=(n:Int)):=by
  refine aM ?_;rw [hn];exact w_add mid m (2 * len) (by omega) (by omega)
 have E6:Aside0 (wrap64 ((n:Int)-1)=(p:Int)∧IntKind.i64.wrap ((n:Int)-1)=(p:Int)):=by
  refine aM ?_;rw [hp];exact w_dec n (2 * len) (by omega) (by omega) (by omega)
 have E7:Aside0 (mid<m→wrap64 ((n:Int)-(b:Int))=(s0:Int)∧IntKind.i64.wrap ((n:Int)-(b:Int))=(s0:Int)):=by
  refine aM (fun h=>?_);rw [if_pos h] at hs1;exact dvar n b s0 (2 * len) hs1 (by omega) (by omega) (by omega)
 have HS1:=aM hs1;have HR1:=aM hr1;clear hP hr hg ham hmb hb hlen hc hok hb0 hroom hrot hrec hrok hrlen hd hd1 hd' hd1' hmid hn hp hs0 hr0 hs1 hr1 hbig;go_enter Tryz.func176,Tryz.ntmps176
 by_cases hmm:mid<m
 all_goals (
  first
  | (have k1:decide ((mid:Int)<(m:Int))=true:=dT (by omega);have k2:decide (mid<m)=true:=dT hmm;obtain ⟨e13,e14⟩:=E7.out hmm;have HRR:=aM (show r0=mid by have:=HR1.out;rw [if_pos hmm] at this;exact this))
  | (have k1:decide ((mid:Int)<(m:Int))=false:=dF (by omega);have k2:decide (mid<m)=false:=dF hmm;have HRR:=aM (show r0=m by have:=HR1.out;rw [if_neg hmm] at this;exact this);have HSS:=aM (show s0=a by have:=HS1.out;rw [if_neg hmm] at this;exact this))
  obtain ⟨e1,e2⟩:=E1.out;obtain ⟨e3,e4⟩:=E2.out;obtain ⟨e5,e6⟩:=E3.out;obtain ⟨e7,e8⟩:=E4.out;obtain ⟨e9,e10⟩:=E5.out;obtain ⟨e11,e12⟩:=E6.out;clear hmm;go_wp2;clear e1 e2 e3 e4 e5 e6 e7 e8 e9 e10 e11 e12;try clear e13 e14
  go_loopw [20,21] (fun v10 v11 wr=>∃ (i j f:Nat),v10=.int .i64 i∧v11=.int .i64 j∧Hid (s0≤i∧i≤j∧j≤r0∧j-i≤f)∧Hid (RowE 86 3 encF wr g cap l)∧Hid (Below w0.heap.size w0 wr)∧Hid (bsL P f i j=bsL P (r0-s0) s0 r0)) (fun v10 v11 _=>(intOf v11).toNat-(intOf v10).toNat)
  case atStart=>exact ⟨s0,r0,r0-s0,by first|rfl|rw [HSS.out],by rw [HRR.out],Lib.hid (by have:=HW.out;omega),Lib.hid HR0.out,Lib.hid HB0.out,Lib.hid rfl⟩
  case round=>
   obtain ⟨i,j,f,rfl,rfl,HI,HR,HB,HS⟩:=hrel
   by_cases hij:i<j
   ·have b1:decide ((i:Int)<(j:Int))=true:=dT (by omega)
    have b2:decide (i<j)=true:=dT hij;obtain ⟨h,hh⟩:∃ h,h=(i+j) / 2:=⟨_,rfl⟩;obtain ⟨u,hu'⟩:∃ u,u=p-h:=⟨_,rfl⟩;have HH:=aM (show i≤h∧h<j by omega);have HU:=aM (show u<len∧h≤p∧h<m by have:=HW.out.2.2.2.1 h (by have:=HI.out;omega) (by have:=HI.out;omega);have:=HW.out.2.2.1;have:=HI.out;omega);have E0:=aM (w_add i j (2 * len) (by have:=HI.out;have:=HW.out.2.2.1;have:=HL.out;omega) (by have:=HROOM.out;omega));have E1:=aM (w_half i j h (2 * len) hh (by have:=HI.out;have:=HW.out.2.2.1;have:=HL.out;omega) (by have:=HROOM.out;omega));have E3:=aM (w_one h (len+1) (by have:=HU.out;have:=HL.out;omega) (by have:=HROOM.out;omega));have E8:=aM (dvar p h u (2 * len) hu' HU.out.2.1 (by have:=HN.out;omega) (by have:=HROOM.out;omega));obtain ⟨x,hx⟩:∃ x,l[u]? = some x:=⟨_,List.getElem?_eq_getElem (by have:=HU.out;have:=HL.out;omega)⟩;obtain ⟨y,hy⟩:∃ y,l[h]? = some y:=⟨_,List.getElem?_eq_getElem (by have:=HU.out;have:=HL.out;omega)⟩;have pu:(0≤(u:Int))=True:=eq_true (by omega);have qu:((u:Int)<(len:Int))=True:=eq_true (by have:=HU.out;omega);have qu':(u<len)=True:=eq_true (by have:=HU.out;omega);have ph:(0≤(h:Int))=True:=eq_true (by omega);have qh:((h:Int)<(len:Int))=True:=eq_true (by have:=HU.out;have:=HL.out;omega);have qh':(h<len)=True:=eq_true (by have:=HU.out;have:=HL.out;omega);have hp:P h=!(decide (cf x y<0)):=by rw [HP.out];show (!(ltAt cf l (p-h) h))=_;rw [← hu'];exact congrArg (fun z=>!z) (ltAt_eq hx hy)
    have hs:=HS.out;rw [show f=(f-1)+1 by have:=HI.out;omega,bsL,if_pos hij,← hh,hp] at hs;have HS2:=Lib.hid hs;clear hs HS hp hh hij hu';obtain ⟨e00,e01⟩:=E0.out;obtain ⟨e1,e2⟩:=E1.out
    by_cases hc:cf x y<0
    all_goals (
     first
     | (have d2:(cf x y<0)=True:=eq_true hc;have d3:(0≤cf x y)=False:=eq_false (by clear e1 e2 e00 e01;omega);have hs3:=HS2.out;rw [dT hc,if_neg (by decide)] at hs3;have d1:=dT hc;have d4:decide (0≤cf x y)=false:=dF (by clear e1 e2 e00 e01;omega))
     | (have d2:(cf x y<0)=False:=eq_false hc;have d3:(0≤cf x y)=True:=eq_true (by clear e1 e2 e00 e01;omega);have hs3:=HS2.out;rw [dF hc,if_pos (by decide)] at hs3;have d1:=dF hc;have d4:decide (0≤cf x y)=true:=dT (by clear e1 e2 e00 e01;omega))
     have HS3:=Lib.hid hs3;clear hs3 hc;go_wp2;clear e1 e2 e00 e01;obtain ⟨e8,e9⟩:=E8.out;have HRd:=aM (HR.out.below (w':=wr.drew) (below_drew (Below.refl _ _)));have HBd:=aM (below_drew HB.out);obtain ⟨ax0,ax1,ax2⟩:=cellF HAD.out HRd.out hx;obtain ⟨ay0,ay1,ay2⟩:=cellF HAD.out HRd.out hy;refine start_ (n:=14) (S:=fun w'=>w'.cell? (ad.add (u * 3))=some (.string x.f0)∧w'.cell? ⟨(ad.add (u * 3)).block,(ad.add (u * 3)).off+1,none⟩=some (.int .i64 x.f1)∧w'.cell? ⟨(ad.add (u * 3)).block,(ad.add (u * 3)).off+2,none⟩=some (.bool x.f2)∧w'.cell? (ad.add (h * 3))=some (.string y.f0)∧w'.cell? ⟨(ad.add (h * 3)).block,(ad.add (h * 3)).off+1,none⟩=some (.int .i64 y.f1)∧w'.cell? ⟨(ad.add (h * 3)).block,(ad.add (h * 3)).off+2,none⟩=some (.bool y.f2)) (ds:=[]) (mkB 14 0) (by kernel_rfl) rfl rfl ⟨ax0,ax1,ax2,ay0,ay1,ay2⟩ (fun hHeld=>?_);refine with_tabW symS.tab35 symS.bits35 (fun HT_ HW_=>?_)
     generalize wr.drew=w6 at HRd HBd hHeld ax0 ax1 ax2 ay0 ay1 ay2 ⊢
     refine pureA 0 (some 158) (mkB 14 1) ?_;refine pureA 1 (some 159) (mkB 14 3) ?_;refine pureA 2 (some 160) (mkB 14 7) ?_;refine pureA 3 (some 161) (mkB 14 15) ?_;refine pureA 4 (some 162) (mkB 14 31) ?_;refine pureA 5 (some 163) (mkB 14 63) ?_;refine takeA 6 (some 164) (mkB 14 127) ?_ rfl (Or.inl ⟨by rfl,by rintro w' ⟨s0,s1,s2,s3,s4,s5⟩;go_simp;with_reducible rfl⟩);refine pureA 7 (some 165) (mkB 14 255) ?_;refine pureA 8 (some 166) (mkB 14 511) ?_;refine pureA 9 (some 167) (mkB 14 1023) ?_;refine takeA 10 (some 168) (mkB 14 2047) ?_ rfl (Or.inl ⟨by rfl,by rintro w' ⟨s0,s1,s2,s3,s4,s5⟩;go_simp;with_reducible rfl⟩);refine oneA 11 (some 169) (mkB 14 4095) (fun K hK=>?_);refine call_ c #[.agg #[.string x.f0,.int .i64 x.f1,.bool x.f2],.agg #[.string y.f0,.int .i64 y.f1,.bool y.f2]] (by rfl) rfl (by go_simp;first|done|rfl|exact eg _ _) ?_;refine (HC.out _ HBd.out x y (HOK.out x (List.mem_of_getElem? hx)) (HOK.out y (List.mem_of_getElem? hy))).mono ?_;rintro e w7 ⟨rfl,hb⟩;refine ⟨_,rfl,?_⟩;have HR7:=aM (HRd.out.below hb);have HB7:=aM (below_step HBd.out hb);clear ax0 ax1 ax2 ay0 ay1 ay2 hHeld HRd HBd hb;obtain ⟨ax0,ax1,ax2⟩:=cellF HAD.out HR7.out hx;obtain ⟨ay0,ay1,ay2⟩:=cellF HAD.out HR7.out hy;refine hK.out _ _ ⟨ax0,ax1,ax2,ay0,ay1,ay2⟩ (fun hHeld=>?_);clear hK K;refine normA ?_;refine pureA 12 (some 170) (mkB 14 8191) ?_;refine pureA 13 (some 171) (mkB 14 16383) ?_;refine done_ (done_of HT_.out (by kernel_rfl)) ?_;clear hHeld ax0 ax1 ax2 ay0 ay1 ay2 e8 e9;have e3:=E3.out;go_wp2
     go_roundw
     case rel=>first|exact ⟨i,h,f-1,rfl,rfl,Lib.hid (by have:=HI.out;have:=HH.out;clear e3;omega),Lib.hid HR7.out,Lib.hid HB7.out,Lib.hid HS3.out⟩|exact ⟨h+1,j,f-1,by rw [e3],rfl,Lib.hid (by have:=HI.out;have:=HH.out;clear e3;omega),Lib.hid HR7.out,Lib.hid HB7.out,Lib.hid HS3.out⟩
     case measure=>
      (try rw [e3]);simp only [intOf];have:=HH.out;clear e3
      omega)
   ·have b1:decide ((i:Int)<(j:Int))=false:=dF (by omega)
    have b2:decide (i<j)=false:=dF hij;have hs:=HS.out;rw [bsL_same P f i j hij] at hs;obtain ⟨s,rfl⟩:∃ s,s=i:=⟨_,rfl⟩;obtain ⟨e,he⟩:∃ e,e=n-s:=⟨_,rfl⟩;have HT3:=Lib.hid (show symTail R l a m b mid s e=symTail R l a m b mid (bsL P (r0-s0) s0 r0) (n-bsL P (r0-s0) s0 r0) by rw [he,hs]);have HE:=aM (show e≤len∧s≤n by have:=HW.out;have:=HI.out;have:=HL.out;omega);have ES:=aM (dvar n s e (2 * len) he HE.out.2 (by have:=HN.out;omega) (by have:=HROOM.out;omega));clear hs HS hij he
    rcases tri s m e with ⟨Q0,u1,u2⟩|⟨Q0,u1,u2⟩|⟨Q0,u1⟩<;>rcases tri a s mid with ⟨Q1,u3,u4⟩|⟨Q1,u3,u4⟩|⟨Q1,u3⟩<;>rcases tri mid e b with ⟨Q2,u5,u6⟩|⟨Q2,u5,u6⟩|⟨Q2,u5⟩
    all_goals (
     obtain ⟨e1,e2⟩:=ES.out;obtain ⟨g0,g1⟩:=u1;obtain ⟨g2,g3⟩:=u3;obtain ⟨g4,g5⟩:=u5;(try obtain ⟨g6,g7⟩:=u2);(try obtain ⟨g8,g9⟩:=u4);try obtain ⟨ga,gb⟩:=u6
     (try go_wp2_with (first|(go_at_call 181;refine (HROT.out l s m e _ HL.out.2.2.2.1 HR.out Q0.out.1 Q0.out.2 HE.out.1).mono ?_;rintro e' w5 ⟨rfl,h5,b5⟩)|((fail_if_success (clear h6));go_at_call 176;(first|refine (HREC.out _ a s mid _ Q1.out.1 Q1.out.2 HM.out.1 HM.out.2.1 (all_rotGo _ _ _ _ HOK.out) ((rotGo_len _ _ _ _ _).trans HL.out.2.2.2.1) h5 (HB.out.trans b5)).mono ?_|refine (HREC.out _ a s mid _ Q1.out.1 Q1.out.2 HM.out.1 HM.out.2.1 HOK.out HL.out.2.2.2.1 HR.out HB.out).mono ?_);rintro e' w6 ⟨rfl,h6,b6⟩)|((fail_if_success (clear h7));go_at_call 176;(first|refine (HREC.out _ mid e b _ Q2.out.1 Q2.out.2 HM.out.2.2.1 HM.out.2.2.2 (HROK.out _ a s mid (by first|exact all_rotGo _ _ _ _ HOK.out|exact HOK.out)) ((HRLEN.out _ a s mid).trans (by first|exact (rotGo_len _ _ _ _ _).trans HL.out.2.2.2.1|exact HL.out.2.2.2.1)) h6 b6).mono ?_|refine (HREC.out _ mid e b _ Q2.out.1 Q2.out.2 HM.out.2.2.1 HM.out.2.2.2 (all_rotGo _ _ _ _ HOK.out) ((rotGo_len _ _ _ _ _).trans HL.out.2.2.2.1) h5 (HB.out.trans b5)).mono ?_|refine (HREC.out _ mid e b _ Q2.out.1 Q2.out.2 HM.out.2.2.1 HM.out.2.2.2 HOK.out HL.out.2.2.2.1 HR.out HB.out).mono ?_);rintro e' w7 ⟨rfl,h7,b7⟩)))
     try go_wp2
     go_end0
     refine ⟨rfl,?_,by first|exact b7|exact b6|exact HB.out.trans b5|exact HB.out⟩;rw [← HT3.out,symTail]
     first|rw [if_pos Q2.out]|rw [if_neg Q2.out]
     first|rw [if_pos Q1.out]|rw [if_neg Q1.out]
     first|rw [if_pos Q0.out]|rw [if_neg Q0.out]
     first|exact h7|exact h6|exact h5|exact HR.out))
def symL {α:Type} (cf:α→α→Int):Nat→List α→Nat→Nat→Nat→List α
 | 0,l,_,_,_=>l
 | f+1,l,a,m,b=>if m=a+1 then upL (bsL (fun h=>ltAt cf l h a) (b-m) m b-1-a) l a else if b=m+1 then dnL (m-bsL (fun h=>!(ltAt cf l m h)) (m-a) a m) l m else symBig cf (symL cf f) l a m b
def stK {α:Type} (k:Nat) (cf:α→α→Int) (l:List α):List α:=
 if l.length<k then insOut cf 0 (l.length-1) l 1
 else if k<l.length then symL cf l.length (insOut cf k (l.length-(k+1)) (insOut cf 0 (k-1) l 1) (k+1)) 0 k l.length
 else insOut cf k (l.length-(k+1)) (insOut cf 0 (k-1) l 1) (k+1)
theorem upL_len {α:Type}:∀ (n:Nat) (l:List α) (k:Nat),(upL n l k).length=l.length
 | 0,l,k=>rfl
 | n+1,l,k=>by rw [upL,upL_len n,swpL_len]
theorem dnL_len {α:Type}:∀ (n:Nat) (l:List α) (k:Nat),(dnL n l k).length=l.length
 | 0,l,k=>rfl
 | n+1,l,k=>by rw [dnL,dnL_len n,swpL_len]
theorem all_upL {α:Type} {ok:α→Prop}:∀ (n:Nat) {l:List α} (k:Nat),(∀ x∈l,ok x)→∀ x∈upL n l k,ok x
 | 0,l,k,h=>h
 | n+1,l,k,h=>all_upL n (k+1) (all_swpL h _ _)
theorem all_dnL {α:Type} {ok:α→Prop}:∀ (n:Nat) {l:List α} (k:Nat),(∀ x∈l,ok x)→∀ x∈dnL n l k,ok x
 | 0,l,k,h=>h
 | n+1,l,k,h=>all_dnL n (k-1) (all_swpL h _ _)
theorem all_symTail {α:Type} {Q:List α→Prop} (R:List α→Nat→Nat→Nat→List α) (l:List α) (a m b mid s e:Nat) (h:Q l) (hR:∀ l a m b,Q l→Q (R l a m b)) (hrot:∀ f l m i j,Q l→Q (rotGo f l m i j)):Q (symTail R l a m b mid s e):=by
 unfold symTail
 have h1:Q (if s<m∧m<e then rotGo (e-s) l m (m-s) (e-m) else l):=by
  split
  ·exact hrot _ _ _ _ _ h
  ·exact h
 have h2:Q (if a<s∧s<mid then R (if s<m∧m<e then rotGo (e-s) l m (m-s) (e-m) else l) a s mid else (if s<m∧m<e then rotGo (e-s) l m (m-s) (e-m) else l)):=by
  by_cases h:a<s∧s<mid
  ·rw [if_pos h];exact hR _ _ _ _ h1
  ·rw [if_neg h];exact h1
 by_cases h:mid<e∧e<b
 ·rw [if_pos h];exact hR _ _ _ _ h2
 ·rw [if_neg h];exact h2
theorem symL_len {α:Type} (cf:α→α→Int):∀ (f:Nat) (l:List α) (a m b:Nat),(symL cf f l a m b).length=l.length
 | 0,l,a,m,b=>rfl
 | f+1,l,a,m,b=>by
  rw [symL]
  by_cases h1:m=a+1
  ·rw [if_pos h1,upL_len]
  rw [if_neg h1]
  by_cases h2:b=m+1
  ·rw [if_pos h2,dnL_len]
  rw [if_neg h2];exact all_symTail (Q:=fun x=>x.length=l.length) _ _ _ _ _ _ _ _ rfl (fun l' _ _ _ h=>(symL_len cf f l' _ _ _).trans h) (fun _ _ _ _ _ h=>(rotGo_len _ _ _ _ _).trans h)
theorem all_symL {α:Type} {ok:α→Prop} (cf:α→α→Int):∀ (f:Nat) {l:List α} (a m b:Nat),(∀ x∈l,ok x)→∀ x∈symL cf f l a m b,ok x
 | 0,l,a,m,b,h=>h
 | f+1,l,a,m,b,h=>by
  rw [symL]
  by_cases h1:m=a+1
  ·rw [if_pos h1];exact all_upL _ _ h
  rw [if_neg h1]
  by_cases h2:b=m+1
  ·rw [if_pos h2];exact all_dnL _ _ h
  rw [if_neg h2];exact all_symTail (Q:=fun x=>∀ y∈x,ok y) _ _ _ _ _ _ _ _ h (fun l' _ _ _ h=>all_symL cf f _ _ _ h) (fun _ _ _ _ _ h=>all_rotGo _ _ _ _ h)
theorem symL.calls (w0:World) (c g cap len:Nat) (cf:S86→S86→Int) (ok:S86→Prop) (eg:∀ args w,(callFunc c args).run Tryz.prog w=.ok (.enter c args) w) (hc:CmpF w0 c cf ok) (hg:w0.heap.size≤g) (hroom:2 * len+2≤maxLen):∀ (f:Nat) (l:List S86) (a m b:Nat) (w:World) (hok:∀ x∈l,ok x) (hlen:l.length=len) (hr:RowE 86 3 encF w g cap l) (hb0:Below w0.heap.size w0 w) (ham:a<m) (hmb:m<b) (hb:b≤len) (hf:b-a≤f),
  Calls Tryz.prog 176 #[.slice (some ⟨g,0,none⟩) len cap,.int .i64 a,.int .i64 m,.int .i64 b,.func (.func c) #[] #[]] w fun e w'=>e=.returned (.tuple #[])∧RowE 86 3 encF w' g cap (symL cf f l a m b)∧Below w0.heap.size w0 w'
 | 0,l,a,m,b,w,hok,hlen,hr,hb0,ham,hmb,hb,hf=>by omega
 | f+1,l,a,m,b,w,hok,hlen,hr,hb0,ham,hmb,hb,hf=>by
  rw [symL]
  by_cases h1:m=a+1
  ·rw [if_pos h1]
   exact sym1.calls w0 c g cap len l a m b cf ok w eg hc hok hlen hr hb0 hg h1 hmb hb hroom
  rw [if_neg h1]
  by_cases h2:b=m+1
  ·rw [if_pos h2]
   exact sym2.calls w0 c g cap len l a m b cf ok w eg hc hok hlen hr hb0 hg (by omega) h2 hb hroom
  rw [if_neg h2];exact sym3.calls w0 c g cap len (symL cf f) l a m b cf ok w eg hc hok hlen hr hb0 hg (by omega) (by omega) hb hroom (fun l a m b h=>all_symL cf f a m b h) (fun l a m b=>symL_len cf f l a m b) (fun l' a' m' b' W h1 h2 h3 h4 h5 h6 h7 h8=>symL.calls w0 c g cap len cf ok eg hc hg hroom f l' a' m' b' W h5 h6 h7 h8 h1 h2 h4 (by omega))
theorem stab.calls (w0:World) (c g cap len:Nat) (l:List S86) (cf:S86→S86→Int) (ok:S86→Prop) (w:World) (eg:∀ args w,(callFunc c args).run Tryz.prog w=.ok (.enter c args) w) (hc:CmpF w0 c cf ok) (hok:∀ x∈l,ok x) (hlen:l.length=len) (hr:RowE 86 3 encF w g cap l) (hb0:Below w0.heap.size w0 w) (hg:w0.heap.size≤g) (hlt:len<40):
  Calls Tryz.prog 165 #[.slice (some ⟨g,0,none⟩) len cap,.int .i64 len,.func (.func c) #[] #[]] w fun e w'=>e=.returned (.tuple #[])∧RowE 86 3 encF w' g cap (stK 20 cf l)∧Below w0.heap.size w0 w':=by
 have hroom:2 * len+2≤maxLen:=by unfold maxLen;omega
 have hins:∀ (l:List S86) (a b:Nat) (W:World),(∀ x∈l,ok x)→l.length=len→RowE 86 3 encF W g cap l→Below w0.heap.size w0 W→a≤b→b≤len→Calls Tryz.prog 175 #[.slice (some ⟨g,0,none⟩) len cap,.int .i64 a,.int .i64 b,.func (.func c) #[] #[]] W fun e w'=>e=.returned (.tuple #[])∧RowE 86 3 encF w' g cap (insOut cf a (b-(a+1)) l (a+1))∧Below w0.heap.size w0 w':=fun l a b W h1 h2 h3 h4 h5 h6=>insS.calls w0 c g cap len l a b cf ok W eg hc h1 h2 h3 h4 hg h5 h6 (by omega)
 have hsym:=symL.calls w0 c g cap len cf ok eg hc hg hroom;obtain ⟨ad,had⟩:∃ ad:Addr,ad=⟨g,0,none⟩:=⟨_,rfl⟩;rw [← had] at hins hsym;rw [← had];clear had;have hu:=Tryz.underlying86;have HINS:=aM hins;have HSYM:=aM hsym;have HR0:=aM hr;have HB0:=aM hb0;have HOK:=aM hok;have HLEN:=aM hlen;clear hins hsym hr hb0 hok hc eg hroom
 by_cases h20:len<20
 ·have k1:decide ((20:Int)≤(len:Int))=false:=dF (by omega)
  have k2:((20:Int)≤(len:Int))=False:=eq_false (by omega);have k3:decide ((20:Int)<(len:Int))=false:=dF (by omega);have k4:((20:Int)<(len:Int))=False:=eq_false (by omega);have HST:=Lib.hid (show insOut cf 0 (len-(0+1)) l (0+1)=stK 20 cf l by unfold stK;rw [if_pos (by omega),hlen]);clear h20 hlen;go_enter Tryz.func165,Tryz.ntmps165;go_wp2
  go_loopw [7,8] (fun v7 v8 wr=>v7=.int .i64 0∧v8=.int .i64 20∧wr=w) (fun _ _ _=>0)
  case atStart=>exact ⟨rfl,rfl,rfl⟩
  case round=>
   obtain ⟨rfl,rfl,rfl⟩:=hrel;go_wp2_with (go_at_call 175;refine (HINS.out l 0 len _ HOK.out HLEN.out HR0.out HB0.out (Nat.zero_le _) (Nat.le_refl _)).mono ?_;rintro e' w5 ⟨rfl,h5,b5⟩)
   go_loopw [6] (fun v6 wq=>v6=.int .i64 20∧wq=w5) (fun _ _=>0)
   case atStart=>exact ⟨rfl,rfl⟩
   case round=>
    obtain ⟨rfl,rfl⟩:=hrel;go_wp2
    go_end0
    exact ⟨rfl,by rw [← HST.out];exact h5,b5⟩
 ·have k1:decide ((20:Int)≤(len:Int))=true:=dT (by omega)
  have k2:((20:Int)≤(len:Int))=True:=eq_true (by omega);have k5:decide ((40:Int)≤(len:Int))=false:=dF (by omega);have k6:((40:Int)≤(len:Int))=False:=eq_false (by omega);obtain ⟨l1,hl1⟩:∃ l1,l1=insOut cf 0 (20-(0+1)) l (0+1):=⟨_,rfl⟩;obtain ⟨l2,hl2⟩:∃ l2,l2=insOut cf 20 (len-(20+1)) l1 (20+1):=⟨_,rfl⟩;have HL1:=aM hl1;have HL2:=aM hl2;have HO1:=aM (show ∀ x∈l1,ok x by rw [hl1];exact all_insOut cf 0 _ _ HOK.out);have HO2:=aM (show ∀ x∈l2,ok x by rw [hl2];exact all_insOut cf 20 _ _ HO1.out);have HN1:=aM (show l1.length=len by rw [hl1,insOut_len,hlen]);have HN2:=aM (show l2.length=len by rw [hl2,insOut_len,HN1.out])
  have HST:=Lib.hid (show (if 20<len then symL cf len l2 0 20 len else l2)=stK 20 cf l by
   symm;unfold stK;rw [hlen,if_neg h20,hl2,hl1])
  have HGE:=Lib.hid (show 20≤len by omega);clear hlen hl1 hl2
  by_cases h21:20<len
  ·have k3:decide ((20:Int)<(len:Int))=true:=dT (by omega)
   have k4:((20:Int)<(len:Int))=True:=eq_true (by omega);have k7:decide ((40:Int)<(len:Int))=false:=dF (by omega);have k8:((40:Int)<(len:Int))=False:=eq_false (by omega);have HST2:=Lib.hid (show symL cf len l2 0 20 len=stK 20 cf l by have:=HST.out;rw [if_pos h21] at this;exact this);have HGT:=Lib.hid h21;clear h21 h20;go_enter Tryz.func165,Tryz.ntmps165;go_wp2
   go_loopw [7,8] (fun v7 v8 wr=>(v7=.int .i64 0∧v8=.int .i64 20∧wr=w)∨(v7=.int .i64 20∧v8=.int .i64 40∧Hid (RowE 86 3 encF wr g cap l1)∧Hid (Below w0.heap.size w0 wr))) (fun v7 _ _=>(20-intOf v7).toNat)
   case atStart=>exact .inl ⟨rfl,rfl,rfl⟩
   case' round=>
    obtain (⟨rfl,rfl,rfl⟩|⟨rfl,rfl,HR1,HB1⟩):=hrel
    ·go_wp2_with (go_at_call 175;refine (HINS.out l 0 20 _ HOK.out HLEN.out HR0.out HB0.out (Nat.zero_le _) HGE.out).mono ?_;rintro e' w5 ⟨rfl,h5,b5⟩;rw [← HL1.out] at h5)
     go_roundw
     case rel=>exact .inr ⟨rfl,rfl,Lib.hid h5,Lib.hid b5⟩
     case measure=>simp only [intOf];omega
   go_wp2_with (go_at_call 175;refine (HINS.out l1 20 len _ HO1.out HN1.out HR1.out HB1.out HGE.out (Nat.le_refl _)).mono ?_;rintro e' w6 ⟨rfl,h6,b6⟩;rw [← HL2.out] at h6)
   go_loopw [6] (fun v6 wq=>(v6=.int .i64 20∧Hid (RowE 86 3 encF wq g cap l2)∧Hid (Below w0.heap.size w0 wq))∨(v6=.int .i64 40∧Hid (RowE 86 3 encF wq g cap (symL cf len l2 0 20 len))∧Hid (Below w0.heap.size w0 wq))) (fun v6 _=>(40-intOf v6).toNat)
   case atStart=>exact .inl ⟨rfl,Lib.hid h6,Lib.hid b6⟩
   case round=>
    obtain (⟨rfl,HR,HB⟩|⟨rfl,HR,HB⟩):=hrel
    ·go_wp2
     go_loopw [7,8] (fun v7 v8 wz=>v7=.int .i64 0∧v8=.int .i64 40∧wz=wr) (fun _ _ _=>0)
     case atStart=>exact ⟨rfl,rfl,rfl⟩
     case round=>
      obtain ⟨rfl,rfl,rfl⟩:=hrel;go_wp2_with (go_at_call 176;refine (HSYM.out len l2 0 20 len _ HO2.out HN2.out HR.out HB.out (by decide) HGT.out (Nat.le_refl _) (by omega)).mono ?_;rintro e' w7 ⟨rfl,h7,b7⟩)
      go_roundw
      case rel=>exact .inr ⟨rfl,Lib.hid h7,Lib.hid b7⟩
      case measure=>simp only [intOf];omega
    ·go_wp2
     go_end0
     exact ⟨rfl,by rw [← HST2.out];exact HR.out,HB.out⟩
  ·have k3:decide ((20:Int)<(len:Int))=false:=dF (by omega)
   have k4:((20:Int)<(len:Int))=False:=eq_false (by omega);have HST2:=Lib.hid (show l2=stK 20 cf l by have:=HST.out;rw [if_neg h21] at this;exact this);clear h21 h20;go_enter Tryz.func165,Tryz.ntmps165;go_wp2
   go_loopw [7,8] (fun v7 v8 wr=>(v7=.int .i64 0∧v8=.int .i64 20∧wr=w)∨(v7=.int .i64 20∧v8=.int .i64 40∧Hid (RowE 86 3 encF wr g cap l1)∧Hid (Below w0.heap.size w0 wr))) (fun v7 _ _=>(20-intOf v7).toNat)
   case atStart=>exact .inl ⟨rfl,rfl,rfl⟩
   case' round=>
    obtain (⟨rfl,rfl,rfl⟩|⟨rfl,rfl,HR1,HB1⟩):=hrel
    ·go_wp2_with (go_at_call 175;refine (HINS.out l 0 20 _ HOK.out HLEN.out HR0.out HB0.out (Nat.zero_le _) HGE.out).mono ?_;rintro e' w5 ⟨rfl,h5,b5⟩;rw [← HL1.out] at h5)
     go_roundw
     case rel=>exact .inr ⟨rfl,rfl,Lib.hid h5,Lib.hid b5⟩
     case measure=>simp only [intOf];omega
   go_wp2_with (go_at_call 175;refine (HINS.out l1 20 len _ HO1.out HN1.out HR1.out HB1.out HGE.out (Nat.le_refl _)).mono ?_;rintro e' w6 ⟨rfl,h6,b6⟩;rw [← HL2.out] at h6)
   go_loopw [6] (fun v6 wq=>v6=.int .i64 20∧wq=w6) (fun _ _=>0)
   case atStart=>exact ⟨rfl,rfl⟩
   case round=>
    obtain ⟨rfl,rfl⟩:=hrel;go_wp2
    go_end0
    exact ⟨rfl,by rw [← HST2.out];exact h6,b6⟩
section
variable {α:Type} {ok:α→Prop} {cf cg:α→α→Int}
theorem ltAt_congr (hcf:∀ x y,ok x→ok y→cf x y=cg x y) {l:List α} (h:∀ x∈l,ok x) (i j:Nat):ltAt cf l i j=ltAt cg l i j:=by
 unfold ltAt
 split
 ·rename_i x y hx hy
  rw [hcf x y (h x (List.mem_of_getElem? hx)) (h y (List.mem_of_getElem? hy))]
 ·rfl
theorem insIn_congr (hcf:∀ x y,ok x→ok y→cf x y=cg x y) (a:Nat):∀ (j:Nat) {l:List α} (h:∀ x∈l,ok x),insIn cf a j l=insIn cg a j l
 | 0,l,h=>rfl
 | j+1,l,h=>by rw [insIn,insIn,ltAt_congr hcf h,insIn_congr hcf a j (all_swpL h _ _)]
theorem insOut_congr (hcf:∀ x y,ok x→ok y→cf x y=cg x y) (a:Nat):∀ (n:Nat) {l:List α} (i:Nat) (h:∀ x∈l,ok x),insOut cf a n l i=insOut cg a n l i
 | 0,l,i,h=>rfl
 | n+1,l,i,h=>by rw [insOut,insOut,insIn_congr hcf a i h,insOut_congr hcf a n (i+1) (all_insIn cg a i h)]
theorem symL_congr (hcf:∀ x y,ok x→ok y→cf x y=cg x y):∀ (f:Nat) {l:List α} (a m b:Nat) (h:∀ x∈l,ok x),symL cf f l a m b=symL cg f l a m b
 | 0,l,a,m,b,h=>rfl
 | f+1,l,a,m,b,h=>by
  have e1:(fun h=>ltAt cf l h a)=fun h=>ltAt cg l h a:=funext fun i=>ltAt_congr hcf h _ _
  have e2:(fun h=>!(ltAt cf l m h))=fun h=>!(ltAt cg l m h):=funext fun i=>by rw [ltAt_congr hcf h]
  have e3:(fun h=>!(ltAt cf l ((a+b) / 2+m-1-h) h))=fun h=>!(ltAt cg l ((a+b) / 2+m-1-h) h):=funext fun i=>by rw [ltAt_congr hcf h]
  have ih:=fun {l:List α} (h:∀ x∈l,ok x) a m b=>symL_congr hcf f a m b h
  rw [symL,symL];unfold symBig symAt;rw [e1,e2,e3]
  generalize bsL (fun h=>!(ltAt cg l ((a+b) / 2+m-1-h) h)) (symR0 a m b-symS0 a m b) (symS0 a m b) (symR0 a m b)=s
  have e4:∀ mid e,symTail (symL cf f) l a m b mid s e=symTail (symL cg f) l a m b mid s e:=fun mid e=>by
   unfold symTail
   have h1:∀ x∈(if s<m∧m<e then rotGo (e-s) l m (m-s) (e-m) else l),ok x:=by
    split
    ·exact all_rotGo _ _ _ _ h
    ·exact h
   generalize (if s<m∧m<e then rotGo (e-s) l m (m-s) (e-m) else l)=l1 at h1 ⊢
   have h2:(if a<s∧s<mid then symL cf f l1 a s mid else l1)=if a<s∧s<mid then symL cg f l1 a s mid else l1:=by rw [ih h1]
   rw [h2]
   have h3:∀ x∈(if a<s∧s<mid then symL cg f l1 a s mid else l1),ok x:=by
    split
    ·exact all_symL _ _ _ _ _ h1
    ·exact h1
   rw [ih h3]
  rw [e4]
theorem stK_congr (hcf:∀ x y,ok x→ok y→cf x y=cg x y) (k:Nat) {l:List α} (h:∀ x∈l,ok x):stK k cf l=stK k cg l:=by
 unfold stK;rw [insOut_congr hcf 0 (l.length-1) 1 h,insOut_congr hcf 0 (k-1) 1 h];have h1:∀ x∈insOut cg 0 (k-1) l 1,ok x:=all_insOut _ _ _ _ h;rw [insOut_congr hcf k (l.length-(k+1)) (k+1) h1];rw [symL_congr hcf l.length 0 k l.length (all_insOut _ _ _ _ h1)]
end
theorem flatF_get:∀ (l:List S86) (i c:Nat) (u:Value),i<l.length→c<3→((l.flatMap encF)[i * 3+c]? = some u ↔ (encF (l.getD i z86))[c]? = some u)
 | [],i,c,u,hi,hc=>by simp at hi
 | x :: xs,0,c,u,hi,hc=>by
  rw [List.flatMap_cons,List.getElem?_append_left (by rw [encF_len];omega),Nat.zero_mul,Nat.zero_add];rfl
 | x :: xs,i+1,c,u,hi,hc=>by
  rw [List.flatMap_cons,List.getElem?_append_right (by rw [encF_len];omega),encF_len,show (i+1) * 3+c-3=i * 3+c by omega];exact flatF_get xs i c u (by rw [List.length_cons] at hi;omega) hc
theorem flatF_len:∀ (l:List S86),(l.flatMap encF).length=l.length * 3
 | []=>rfl
 | x :: xs=>by rw [List.flatMap_cons,List.length_append,flatF_len xs,encF_len,List.length_cons];omega
theorem getD_at {α:Type} {l:List α} {i:Nat} {x:α} (z:α) (h:l[i]? = some x):l.getD i z=x:=by rw [List.getD_eq_getElem?_getD,h];rfl
theorem rowE_of_own {w:World} {base g cap:Nat} {l:List S86} (h:w.ownsRow base 86 3 (.slice (some ⟨g,0,none⟩) l.length cap) l.length (l.flatMap encF)):RowE 86 3 encF w g cap l∧base≤g:=by
 obtain ⟨h0,h|⟨g',cap',cur,e,hb,hg,h1,h2,h3,h4⟩⟩:=h
 ·simp at h
 ·simp only [Value.slice.injEq,Option.some.injEq,Addr.mk.injEq,true_and,and_true] at e
  obtain ⟨rfl,rfl⟩:=e;refine ⟨⟨cur,hg,h1,h2,h3,fun i c x u hx hc=>?_⟩,hb⟩;have hi:i<l.length:=(List.getElem?_eq_some_iff.1 hx).1;have hcl:c<3:=by rw [← encF_len x];exact (List.getElem?_eq_some_iff.1 hc).1
  have h5:=(flatF_get l i c u hi hcl).2 (by rw [getD_at _ hx];exact hc);rw [← h4,List.getElem?_take_of_lt (by omega),Array.getElem?_toList] at h5;exact h5
theorem own_of_rowE {w:World} {base g cap:Nat} {l:List S86} (h:RowE 86 3 encF w g cap l) (hb:base≤g):w.ownsRow base 86 3 (.slice (some ⟨g,0,none⟩) l.length cap) l.length (l.flatMap encF):=by
 obtain ⟨cur,h1,h2,h3,h4,h5⟩:=h;refine ⟨flatF_len l,.inr ⟨g,cap,cur,rfl,hb,h1,h2,h3,h4,?_⟩⟩;apply List.ext_getElem?;intro j
 by_cases hj:j<l.length * 3
 ·rw [List.getElem?_take_of_lt hj,Array.getElem?_toList]
  have hi:j / 3<l.length:=by omega
  have hc:j % 3<3:=Nat.mod_lt _ (by decide);have ej:j=j / 3 * 3+j % 3:=by omega
  obtain ⟨x,hx⟩:∃ x,l[j / 3]? = some x:=⟨_,List.getElem?_eq_getElem hi⟩;obtain ⟨u,hu⟩:∃ u,(encF x)[j % 3]? = some u:=⟨_,List.getElem?_eq_getElem (by rw [encF_len];exact hc)⟩;have e1:=h5 _ _ _ _ hx hu;have e2:=(flatF_get l (j / 3) (j % 3) u hi hc).2 (by rw [getD_at _ hx];exact hu);rw [← ej] at e1 e2;rw [e1,e2]
 ·rw [List.getElem?_eq_none (by rw [List.length_take];omega),List.getElem?_eq_none (by rw [flatF_len];omega)]
theorem stK_len {α:Type} (k:Nat) (cf:α→α→Int) (l:List α):(stK k cf l).length=l.length:=by
 unfold stK
 by_cases h:l.length<k
 ·rw [if_pos h,insOut_len]
 rw [if_neg h]
 by_cases h2:k<l.length
 ·rw [if_pos h2,symL_len,insOut_len,insOut_len]
 ·rw [if_neg h2,insOut_len,insOut_len]
theorem insN.calls (A:Option Addr) (cap:Nat) (F:Value) (w:World):Calls Tryz.prog 175 #[.slice A 0 cap,.int .i64 0,.int .i64 0,F] w fun e w'=>e=.returned (.tuple #[])∧w'=w:=by
 go_enter Tryz.func175,Tryz.ntmps175;go_wp2
 go_loopw [8] (fun v8 wr=>v8=.int .i64 1∧wr=w) (fun _ _=>0)
 case atStart=>exact ⟨rfl,rfl⟩
 case round=>
  obtain ⟨rfl,rfl⟩:=hrel;go_wp2
  go_end0
  exact ⟨rfl,rfl⟩
theorem stabN.calls (A:Option Addr) (cap:Nat) (F:Value) (w:World):Calls Tryz.prog 165 #[.slice A 0 cap,.int .i64 0,F] w fun e w'=>e=.returned (.tuple #[])∧w'=w:=by
 go_enter Tryz.func165,Tryz.ntmps165;go_wp2
 go_loopw [7,8] (fun v7 v8 wr=>v7=.int .i64 0∧v8=.int .i64 20∧wr=w) (fun _ _ _=>0)
 case atStart=>exact ⟨rfl,rfl,rfl⟩
 case round=>
  obtain ⟨rfl,rfl,rfl⟩:=hrel;go_wp2_with (go_at_call 175;refine (insN.calls A cap F _).mono ?_;rintro e' w5 ⟨rfl,rfl⟩)
  go_loopw [6] (fun v6 wq=>v6=.int .i64 20∧wq=w5) (fun _ _=>0)
  case atStart=>exact ⟨rfl,rfl⟩
  case round=>
   obtain ⟨rfl,rfl⟩:=hrel;go_wp2
   go_end0
   exact ⟨rfl,rfl⟩
theorem sortS.calls (w0:World) (c:Nat) (v:Value) (l:List S86) (cf:S86→S86→Int) (ok:S86→Prop) (w:World) (eg:∀ args w,(callFunc c args).run Tryz.prog w=.ok (.enter c args) w) (hc:CmpF w0 c cf ok) (hok:∀ x∈l,ok x) (hb0:Below w0.heap.size w0 w) (hlt:l.length<40)
  (hv:w.ownsRow w0.heap.size 86 3 v l.length (l.flatMap encF)):
  Calls Tryz.prog 139 #[v,.func (.func c) #[] #[]] w fun e w'=>e=.returned (.tuple #[])∧w'.ownsRow w0.heap.size 86 3 v l.length ((stK 20 cf l).flatMap encF)∧Below w0.heap.size w0 w':=by
 have hslice:∃ A cap,v=.slice A l.length cap∧(0<l.length→∃ g,A=some ⟨g,0,none⟩):=by
  rcases hv.2 with ⟨rfl,h⟩|⟨g,cap,cur,rfl,_⟩
  ·exact ⟨none,0,by rw [h],fun h0=>by omega⟩
  ·exact ⟨_,cap,rfl,fun _=>⟨g,rfl⟩⟩
 obtain ⟨A,cap,rfl,hA⟩:=hslice
 rcases Nat.eq_zero_or_pos l.length with h0|h0
 ·obtain rfl:=List.eq_nil_of_length_eq_zero h0
  have hcon:=stabN.calls A cap (.func (.func c) #[] #[]) w;have HV:=aM hv;have HB:=aM hb0;clear hv hb0 hc hok eg hA h0 hlt;go_enter Tryz.func139,Tryz.ntmps139;go_wp2_with (go_at_call 165;refine hcon.mono ?_;rintro e' w5 ⟨rfl,rfl⟩)
  go_end0
  exact ⟨rfl,HV.out,HB.out⟩
 ·obtain ⟨g,rfl⟩:=hA h0
  obtain ⟨hr,hg⟩:=rowE_of_own hv;have hcon:=stab.calls w0 c g cap l.length l cf ok w eg hc hok rfl hr hb0 hg hlt;have HG:=aM hg;clear hv hb0 hc hok eg h0 hlt hr hg hA;go_enter Tryz.func139,Tryz.ntmps139;go_wp2_with (go_at_call 165;refine hcon.mono ?_;rintro e' w5 ⟨rfl,h5,b5⟩)
  go_end0
  refine ⟨rfl,?_,b5⟩;have h:=own_of_rowE (base:=w0.heap.size) h5 HG.out;rw [stK_len] at h;exact h
end Go.Proofs.YtpjjbaclphoilaaGreatDoor.A
