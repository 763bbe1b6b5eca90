import Derived.Lib.DecodeNEq
import Derived.Lib.ValidU
import Derived.Test.YtpjjbaclphoilaaGreatDoorAx0
import Derived.Test.YtpjjbaclphoilaaGreatDoorAx3
import Derived.Test.YtpjjbaclphoilaaGreatDoorAx4
import Derived.Test.YtpjjbaclphoilaaGreatDoorAx5
import Derived.Test.YtpjjbaclphoilaaGreatDoorAx6
import Derived.Test.YtpjjbaclphoilaaGreatDoorAx7
import Derived.Test.YtpjjbaclphoilaaGreatDoorAx8
import Derived.Test.YtpjjbaclphoilaaGreatDoorAx9
import Derived.Test.YtpjjbaclphoilaaGreatDoorAx10
import Derived.Test.YtpjjbaclphoilaaGreatDoorAx11
import Derived.Test.YtpjjbaclphoilaaGreatDoorAx12
import Derived.Test.YtpjjbaclphoilaaGreatDoorAx13
import Derived.Test.YtpjjbaclphoilaaGreatDoorAx14
import Derived.Test.YtpjjbaclphoilaaGreatDoorAx15
import Derived.Test.YtpjjbaclphoilaaGreatDoorAx16
import Derived.Test.YtpjjbaclphoilaaGreatDoorAx17
import Derived.Test.YtpjjbaclphoilaaGreatDoorAx18
import Derived.Test.YtpjjbaclphoilaaGreatDoorAx19
import Derived.Test.YtpjjbaclphoilaaGreatDoorAx20
import Derived.Test.YtpjjbaclphoilaaGreatDoorAx21
import Derived.Test.YtpjjbaclphoilaaGreatDoorAx22
import Derived.Test.YtpjjbaclphoilaaGreatDoorAx23
import Derived.Test.YtpjjbaclphoilaaGreatDoorAx24
namespace Go.Proofs.YtpjjbaclphoilaaGreatDoor.U8
open Go.RowKit Go.Proofs.YtpjjbaclphoilaaGreatDoor.A Go.Proofs.YtpjjbaclphoilaaGreatDoorW.PrintWords Go.Proofs.YtpjjbaclphoilaaGreatDoorW.PrintLast Go.Lib
set_option linter.unusedVariables false
def Evn {α:Type} (g:Nat→Option α) (v:α):Prop:=∃ K,∀ k,K≤k→g k=some v
theorem Evn.of {α:Type} {g:Nat→Option α} {v:α} (K:Nat) (h:∀ k,K≤k→g k=some v):Evn g v:=⟨K,h⟩
theorem Evn.of1 {α:Type} {g:Nat→Option α} {v:α} (h:∀ k,g (k+1)=some v):Evn g v:=⟨1,fun k hk=>by
  obtain ⟨j,rfl⟩:∃ j,k=j+1:=⟨k-1,by omega⟩
  exact h j⟩
theorem Evn.ret {α:Type} (v:α):Evn (fun _=>some v) v:=⟨0,fun _ _=>rfl⟩
theorem Evn.con {α:Type} {o:Option α} {v:α} (h:o=some v):Evn (fun _=>o) v:=⟨0,fun _ _=>h⟩
theorem Evn.step {α:Type} {g g':Nat→Option α} {v:α} (e:∀ k,g (k+1)=g' k) (h:Evn g' v):Evn g v:=by
  obtain ⟨K,h⟩:=h
  refine ⟨K+1,fun k hk=>?_⟩
  obtain ⟨j,rfl⟩:∃ j,k=j+1:=⟨k-1,by omega⟩
  exact (e j).trans (h j (by omega))
theorem Evn.cg {α:Type} {g g':Nat→Option α} {v:α} (e:∀ k,g k=g' k) (h:Evn g' v):Evn g v:=by
  obtain ⟨K,h⟩:=h
  exact ⟨K,fun k hk=>(e k).trans (h k hk)⟩
theorem Evn.val {α:Type} {g:Nat→Option α} {v v':α} (e:v=v') (h:Evn g v):Evn g v':=e ▸ h
theorem Evn.pos {α:Type} {c:Prop} [Decidable c] {a b:Nat→Option α} {v:α} (hc:c) (h:Evn a v):Evn (fun k=>if c then a k else b k) v:=by
  obtain ⟨K,h⟩:=h
  exact ⟨K,fun k hk=>(if_pos hc).trans (h k hk)⟩
theorem Evn.neg {α:Type} {c:Prop} [Decidable c] {a b:Nat→Option α} {v:α} (hc:¬ c) (h:Evn b v):Evn (fun k=>if c then a k else b k) v:=by
  obtain ⟨K,h⟩:=h
  exact ⟨K,fun k hk=>(if_neg hc).trans (h k hk)⟩
theorem Evn.ite {α:Type} {c:Prop} [Decidable c] {a b:Nat→Option α} {v:α} (h1:c→Evn a v) (h2:¬ c→Evn b v):Evn (fun k=>if c then a k else b k) v:=by
  by_cases h:c
  · exact Evn.pos h (h1 h)
  · exact Evn.neg h (h2 h)
theorem Evn.bind {α β:Type} {g:Nat→Option α} {u:α} {h:Nat→α→Option β} {v:β} (hg:Evn g u) (hh:Evn (fun k=>h k u) v):Evn (fun k=>(g k).bind (h k)) v:=by
  obtain ⟨K,hg⟩:=hg
  obtain ⟨L,hh⟩:=hh
  refine ⟨K+L,fun k hk=>?_⟩
  show (g k).bind (h k)=some v
  rw [hg k (by omega),Option.bind_some]
  exact hh k (by omega)
theorem Evn.bc {α β:Type} {o:Option α} {u:α} {h:Nat→α→Option β} {v:β} (hg:o=some u) (hh:Evn (fun k=>h k u) v):Evn (fun k=>o.bind (h k)) v:=Evn.bind (Evn.con hg) hh
theorem Evn.get {α:Type} {g:Nat→Option α} {v:α} (h:Evn g v):∃ k,g k=some v:=let ⟨K,h⟩:=h;⟨K,h K (Nat.le_refl _)⟩
theorem w1p {α:Type} (pre:List α) (x:α) (h:pre.length<4000000000000000000):wrap64 ((pre.length:Int)+1)=((pre++[x]).length:Int):=by
  have e:(pre++[x]).length=pre.length+1:=by rw [List.length_append];rfl
  rw [e];unfold wrap64;omega
theorem w1m {α:Type} (pre:List α) (x:α) (h:pre.length<4000000000000000000):wrap64 (((pre++[x]).length:Int)-1)=(pre.length:Int):=by
  have e:(pre++[x]).length=pre.length+1:=by rw [List.length_append];rfl
  rw [e];unfold wrap64;omega
theorem snocLen {α:Type} (pre:List α) (x:α):(pre++[x]).length=pre.length+1:=by rw [List.length_append];rfl
theorem ltp {α:Type} (pre:List α) (x:α) (post:List α):(pre.length:Int)<((pre++x :: post).length:Int):=by
  rw [List.length_append,List.length_cons];omega
theorem nltp {α:Type} (pre:List α):¬ (pre.length:Int)<((pre++[]).length:Int):=by
  rw [List.append_nil];omega
theorem getDp {α:Type} (pre:List α) (x:α) (post:List α) (z:α):(pre++x :: post).getD ((pre.length:Int)).toNat z=x:=by
  rw [Int.toNat_natCast,List.getD_eq_getElem?_getD,List.getElem?_append_right (Nat.le_refl _),Nat.sub_self];rfl
theorem getDq {α:Type} (pre:List α) (y:α) (post:List α) (z:α):((pre++[y])++post).getD ((pre.length:Int)).toNat z=y:=by
  rw [List.append_assoc];exact getDp pre y post z
theorem getDm {α β:Type} (f:α→β) (pre:List α) (x:α) (post:List α) (z:β):((pre++x :: post).map f).getD ((pre.length:Int)).toNat z=f x:=by
  rw [List.map_append,List.map_cons,Int.toNat_natCast,List.getD_eq_getElem?_getD,List.getElem?_append_right (by rw [List.length_map];exact Nat.le_refl _),List.length_map,Nat.sub_self];rfl
theorem Evn.loopS {α β:Type} {g:Nat→Int→Option β} (l:List α) (I:List α→Prop) (S:List α→List α→β)
    (h0:I l→¬ (l.length:Int)<(l.length:Int)→Evn (fun k=>g k (l.length:Int)) (S l []))
    (hs:∀ pre x post,l=pre++x :: post→I pre→(pre.length:Int)<(l.length:Int)→0≤(pre.length:Int)→(pre.length<4000000000000000000→wrap64 ((pre.length:Int)+1)=((pre++[x]).length:Int))→(∀ z,l.getD ((pre.length:Int)).toNat z=x)→x∈l →
      (I (pre++[x])→Evn (fun k=>g k ((pre++[x]).length:Int)) (S (pre++[x]) post))→Evn (fun k=>g k (pre.length:Int)) (S pre (x :: post))):
    ∀ (post pre:List α),l=pre++post→I pre→Evn (fun k=>g k (pre.length:Int)) (S pre post)
  | [],pre,e,hi=>by
    rw [List.append_nil] at e
    subst e
    exact h0 hi (by omega)
  | x :: post,pre,e,hi=>by
    have hlt:(pre.length:Int)<(l.length:Int):=by rw [e];exact ltp pre x post
    exact hs pre x post e hi hlt (Int.natCast_nonneg _) (fun hb=>w1p pre x hb) (fun z=>by rw [e];exact getDp pre x post z) (by rw [e];simp)
      (fun hi'=>Evn.loopS l I S h0 hs post (pre++[x]) (by rw [e,List.append_assoc];rfl) hi')
theorem Evn.loop {α β:Type} {g:Nat→Int→Option β} (l:List α) (hl:l.length<4000000000000000000) (I:List α→Prop) (S:List α→List α→β)
    (h0:I l→¬ (l.length:Int)<(l.length:Int)→Evn (fun k=>g k (l.length:Int)) (S l []))
    (hs:∀ pre x post,l=pre++x :: post→I pre→(pre.length:Int)<(l.length:Int)→0≤(pre.length:Int)→wrap64 ((pre.length:Int)+1)=((pre++[x]).length:Int)→(∀ z,l.getD ((pre.length:Int)).toNat z=x)→x∈l →
      (I (pre++[x])→Evn (fun k=>g k ((pre++[x]).length:Int)) (S (pre++[x]) post))→Evn (fun k=>g k (pre.length:Int)) (S pre (x :: post))):
    ∀ (post pre:List α),l=pre++post→I pre→Evn (fun k=>g k (pre.length:Int)) (S pre post):=
  Evn.loopS l I S h0 (fun pre x post e hi h1 h2 h3 h4 h5 h6=>hs pre x post e hi h1 h2 (h3 (by omega)) h4 h5 h6)
end Go.Proofs.YtpjjbaclphoilaaGreatDoor.U8
namespace Go.Proofs.YtpjjbaclphoilaaGreatDoor.U8
open Go.RowKit Go.Proofs.YtpjjbaclphoilaaGreatDoorW.PrintWords Go.Proofs.YtpjjbaclphoilaaGreatDoorW.PrintLast Go.Lib
set_option linter.unusedVariables false
def tl (n i b:Nat):Prop:=i<n∧128≤b∧b<192
instance (n i b:Nat):Decidable (tl n i b):=by unfold tl;exact inferInstance
def decR (n b0 b1 b2 b3:Nat):Nat × Nat:=
  if n=0 then (0,0)
  else if b0<128 then (b0,1)
  else if 194≤b0∧b0<224∧tl n 1 b1 then (64 * (b0-192)+(b1-128),2)
  else if 224≤b0∧b0<240∧tl n 1 b1∧tl n 2 b2∧2048≤4096 * (b0-224)+64 * (b1-128)+(b2-128)∧(4096 * (b0-224)+64 * (b1-128)+(b2-128)<55296∨57343<4096 * (b0-224)+64 * (b1-128)+(b2-128)) then (4096 * (b0-224)+64 * (b1-128)+(b2-128),3)
  else if 240≤b0∧b0<245∧tl n 1 b1∧tl n 2 b2∧tl n 3 b3∧65536≤262144 * (b0-240)+4096 * (b1-128)+64 * (b2-128)+(b3-128)∧262144 * (b0-240)+4096 * (b1-128)+64 * (b2-128)+(b3-128)≤1114111 then (262144 * (b0-240)+4096 * (b1-128)+64 * (b2-128)+(b3-128),4)
  else (0,0)
set_option maxHeartbeats 4000000 in
set_option maxRecDepth 100000 in
theorem decR_decodeN (n b0 b1 b2 b3:Nat) (hn:n≠0) (h0:b0<256) (h1:b1<256) (h2:b2<256) (h3:b3<256):
    decR n b0 b1 b2 b3=if decodeN n b0 b1 b2 b3=(65533,1) then (0,0) else decodeN n b0 b1 b2 b3:=by
  have fin:∀ X Y:Nat × Nat,decR n b0 b1 b2 b3=X→decodeN n b0 b1 b2 b3=Y→(X=if Y=(65533,1) then (0,0) else Y)→decR n b0 b1 b2 b3=if decodeN n b0 b1 b2 b3=(65533,1) then (0,0) else decodeN n b0 b1 b2 b3:=by
    intro X Y e1 e2 e3;rw [e1,e2];exact e3
  have bad:decR n b0 b1 b2 b3=(0,0)→decodeN n b0 b1 b2 b3=(65533,1)→decR n b0 b1 b2 b3=if decodeN n b0 b1 b2 b3=(65533,1) then (0,0) else decodeN n b0 b1 b2 b3:=fun e1 e2=>fin _ _ e1 e2 (by rw [if_pos rfl])
  have good:∀ X:Nat × Nat,X.2≠1∨X.1≠65533→decR n b0 b1 b2 b3=X→decodeN n b0 b1 b2 b3=X→decR n b0 b1 b2 b3=if decodeN n b0 b1 b2 b3=(65533,1) then (0,0) else decodeN n b0 b1 b2 b3:=fun X h e1 e2=>fin _ _ e1 e2 (by
    rw [if_neg];intro e;rw [e] at h;simp at h)
  by_cases c0:b0<128
  · exact good (b0,1) (.inr (by show b0≠65533;omega)) (by unfold decR;rw [if_neg hn,if_pos c0]) (by unfold decodeN;rw [if_pos c0])
  by_cases c1:b0<192
  · exact bad (by unfold decR;rw [if_neg hn,if_neg c0,if_neg (by omega),if_neg (by omega),if_neg (by omega)]) (by unfold decodeN;rw [if_neg c0,if_neg (by omega),if_neg (by omega),if_neg (by omega)])
  by_cases c2:b0<224
  · by_cases k:194≤b0∧b0<224∧tl n 1 b1
    · have k':=k
      unfold tl at k'
      refine good (64 * (b0-192)+(b1-128),2) (.inl (by simp)) (by unfold decR;rw [if_neg hn,if_neg c0,if_pos k]) ?_
      unfold decodeN
      rw [if_neg c0,if_pos (by omega),if_pos (by omega)]
      exact Prod.ext (by show _=_;omega) rfl
    · have k':=k
      unfold tl at k'
      refine bad (by unfold decR;rw [if_neg hn,if_neg c0,if_neg k,if_neg (by omega),if_neg (by omega)]) ?_
      unfold decodeN
      rw [if_neg c0]
      by_cases k2:b0 / 32=6∧1<n∧b1 / 64=2
      · rw [if_pos k2,if_neg (by omega)]
      · rw [if_neg k2,if_neg (by omega),if_neg (by omega)]
  by_cases c3:b0<240
  · by_cases k:224≤b0∧b0<240∧tl n 1 b1∧tl n 2 b2∧2048≤4096 * (b0-224)+64 * (b1-128)+(b2-128)∧(4096 * (b0-224)+64 * (b1-128)+(b2-128)<55296∨57343<4096 * (b0-224)+64 * (b1-128)+(b2-128))
    · have k':=k
      unfold tl at k'
      refine good (4096 * (b0-224)+64 * (b1-128)+(b2-128),3) (.inl (by simp)) (by unfold decR;rw [if_neg hn,if_neg c0,if_neg (by omega),if_pos k]) ?_
      unfold decodeN
      rw [if_neg c0,if_neg (by omega),if_pos (by omega),if_pos (by omega)]
      exact Prod.ext (by show _=_;omega) rfl
    · have k':=k
      unfold tl at k'
      refine bad (by unfold decR;rw [if_neg hn,if_neg c0,if_neg (by omega),if_neg k,if_neg (by omega)]) ?_
      unfold decodeN
      rw [if_neg c0,if_neg (by omega)]
      by_cases k2:b0 / 16=14∧(1<n∧b1 / 64=2)∧(2<n∧b2 / 64=2)
      · rw [if_pos k2,if_neg (by omega)]
      · rw [if_neg k2,if_neg (by omega)]
  · by_cases k:240≤b0∧b0<245∧tl n 1 b1∧tl n 2 b2∧tl n 3 b3∧65536≤262144 * (b0-240)+4096 * (b1-128)+64 * (b2-128)+(b3-128)∧262144 * (b0-240)+4096 * (b1-128)+64 * (b2-128)+(b3-128)≤1114111
    · have k':=k
      unfold tl at k'
      refine good (262144 * (b0-240)+4096 * (b1-128)+64 * (b2-128)+(b3-128),4) (.inl (by simp)) (by unfold decR;rw [if_neg hn,if_neg c0,if_neg (by omega),if_neg (by omega),if_pos k]) ?_
      unfold decodeN
      rw [if_neg c0,if_neg (by omega),if_neg (by omega),if_pos (by omega),if_pos (by omega)]
      exact Prod.ext (by show _=_;omega) rfl
    · have k':=k
      unfold tl at k'
      refine bad (by unfold decR;rw [if_neg hn,if_neg c0,if_neg (by omega),if_neg (by omega),if_neg k]) ?_
      unfold decodeN
      rw [if_neg c0,if_neg (by omega),if_neg (by omega)]
      by_cases k2:b0 / 8=30∧(1<n∧b1 / 64=2)∧(2<n∧b2 / 64=2)∧(3<n∧b3 / 64=2)
      · rw [if_pos k2,if_neg (by omega)]
      · rw [if_neg k2]
def byt (l:List UInt8) (i:Nat):Nat:=(l.getD i 0).toNat
theorem byt_lt (l:List UInt8) (i:Nat):byt l i<256:=UInt8.toNat_lt _
def dec (l:List UInt8):Nat × Nat:=decR l.length (byt l 0) (byt l 1) (byt l 2) (byt l 3)
theorem get_byt (l:List UInt8) (i:Nat):((⟨l.toArray⟩:ByteArray).get! i).toNat=byt l i:=by
  unfold byt
  show (l.toArray[i]!).toNat=_
  by_cases h:i<l.length
  · simp [h,List.getD_eq_getElem?_getD]
  · simp [h,List.getD_eq_getElem?_getD]
    rfl
theorem decodeL_byt (l:List UInt8):decodeL l=decodeN l.length (byt l 0) (byt l 1) (byt l 2) (byt l 3):=by
  unfold decodeL
  rw [decode_at]
  simp only [Nat.zero_add,get_byt]
  rfl
theorem dec_decodeL (l:List UInt8) (h:l≠[]):dec l=if decodeL l=(65533,1) then (0,0) else decodeL l:=by
  rw [decodeL_byt]
  exact decR_decodeN _ _ _ _ _ (by simpa using h) (byt_lt _ _) (byt_lt _ _) (byt_lt _ _) (byt_lt _ _)
theorem bt_byt (s:ByteArray) (i:Int):bt s i=(byt s.data.toList i.toNat:Int):=by
  unfold bt byt
  split
  · rename_i h
    have:i.toNat<s.data.toList.length:=by rw [Array.length_toList];exact h
    simp only [List.getD_eq_getElem?_getD,List.getElem?_eq_getElem this,Option.getD_some,Array.getElem_toList]
    rfl
  · rename_i h
    have:s.data.toList.length≤i.toNat:=by rw [Array.length_toList];exact Nat.not_lt.1 h
    simp [List.getD_eq_getElem?_getD,List.getElem?_eq_none this]
theorem dec_width (l:List UInt8):(dec l).2≤4∧(dec l).2≤l.length∧((dec l).2=0→(dec l).1=0)∧(dec l).1≤1114111:=by
  have h0:=byt_lt l 0
  have h1:=byt_lt l 1
  have h2:=byt_lt l 2
  have h3:=byt_lt l 3
  unfold dec decR tl
  repeat' split
  all_goals (refine ⟨?_,?_,?_,?_⟩<;>first|(simp only;omega)|(intro _;rfl)|(intro h;simp at h))
def validF:Nat→List UInt8→Bool
  | 0,l=>l.isEmpty
  | f+1,l=>if l.isEmpty then true else if (dec l).2=0 then false else validF f (l.drop (dec l).2)
theorem validGoD_validF:∀ (f:Nat) (l:List UInt8),l.length≤f→validGoD f l=validF f l
  | 0,l,h=>by
    have:l=[]:=List.eq_nil_of_length_eq_zero (by omega)
    subst this;rfl
  | f+1,l,h=>by
    by_cases hl:l=[]
    · unfold validGoD validF;rw [if_pos hl,if_pos (by simp [hl])]
    · have e:=dec_decodeL l hl
      have hw:=dec_width l
      have hG:validGoD (f+1) l=if (decodeL l).1=65533∧(decodeL l).2=1 then false else validGoD f (l.drop (decodeL l).2):=by
        conv=>lhs;unfold validGoD
        rw [if_neg hl]
      have hF:validF (f+1) l=if (dec l).2=0 then false else validF f (l.drop (dec l).2):=by
        conv=>lhs;unfold validF
        rw [if_neg (by simpa using hl)]
      rw [hG,hF]
      by_cases hb:decodeL l=(65533,1)
      · rw [if_pos (by rw [hb];exact ⟨rfl,rfl⟩),if_pos (by rw [e,if_pos hb])]
      · rw [if_neg hb] at e
        have hpos:=decodeL_width l
        rw [if_neg (fun h=>hb (Prod.ext h.1 h.2)),if_neg (by rw [e];omega),e]
        refine validGoD_validF f _ ?_
        rw [List.length_drop];omega
theorem validD_validF (l:List UInt8):validD l=validF l.length l:=validGoD_validF _ _ (Nat.le_refl _)
end Go.Proofs.YtpjjbaclphoilaaGreatDoor.U8
namespace Go.Proofs.YtpjjbaclphoilaaGreatDoor.U8
open Go.RowKit Go.Proofs.YtpjjbaclphoilaaGreatDoor.A Go.Proofs.YtpjjbaclphoilaaGreatDoorW.PrintWords Go.Proofs.YtpjjbaclphoilaaGreatDoorW.PrintLast Go.Lib
set_option linter.unusedVariables false
set_option linter.unusedSimpArgs false
theorem w64 {x:Int} (h0:-9223372036854775808≤x) (h1:x≤9223372036854775807):wrap64 x=x:=by unfold wrap64;omega
theorem toList_nil (s:ByteArray):(s.toList=([]:List UInt8)) ↔ s.size=0:=by
  rw [ByteArray.toList_eq]
  constructor
  · intro h
    have:=data_length s
    rw [h] at this
    exact this.symm
  · intro h
    exact List.eq_nil_of_length_eq_zero (by rw [data_length];exact h)
theorem tail_tl (s:ByteArray) (i:Nat) (I:Int) (hi:I=i):R02_tail.f s I=some (decide (tl s.size i (byt s.data.toList i))):=by
  subst hi
  unfold R02_tail.f
  have e:=bt_byt s (i:Int)
  rw [Int.toNat_natCast] at e
  rw [e]
  by_cases h:i<s.size
  · rw [if_pos (by omega),if_pos (by omega)]
    by_cases h2:128≤byt s.data.toList i
    · rw [if_pos (by omega)]
      exact congrArg some (by rw [decide_eq_decide];unfold tl;omega)
    · rw [if_neg (by omega)]
      exact congrArg some (decide_eq_false (by unfold tl;omega)).symm
  · rw [if_neg (by omega)]
    exact congrArg some (decide_eq_false (by unfold tl;omega)).symm
theorem V3 (x0 x1 x2:Nat) (a:224≤x0∧x0<240) (b:128≤x1∧x1<192) (c:128≤x2∧x2<192):wrap64 ((wrap64 ((wrap64 ((wrap64 (4096 * (wrap64 ((x0:Int)-224))))+(wrap64 (64 * (wrap64 ((x1:Int)-128))))))+(x2:Int)))-128)=((4096 * (x0-224)+64 * (x1-128)+(x2-128):Nat):Int):=by
  rw [w64 (x:=(x0:Int)-224) (by omega) (by omega),w64 (x:=(x1:Int)-128) (by omega) (by omega),w64 (x:=4096 * ((x0:Int)-224)) (by omega) (by omega),w64 (x:=64 * ((x1:Int)-128)) (by omega) (by omega),w64 (x:=4096 * ((x0:Int)-224)+64 * ((x1:Int)-128)) (by omega) (by omega),w64 (x:=4096 * ((x0:Int)-224)+64 * ((x1:Int)-128)+x2) (by omega) (by omega),w64 (by omega) (by omega)]
  omega
theorem V4 (x0 x1 x2 x3:Nat) (a:240≤x0∧x0<245) (b:128≤x1∧x1<192) (c:128≤x2∧x2<192) (d:128≤x3∧x3<192):wrap64 ((wrap64 ((wrap64 ((wrap64 ((wrap64 (262144 * (wrap64 ((x0:Int)-240))))+(wrap64 (4096 * (wrap64 ((x1:Int)-128))))))+(wrap64 (64 * (wrap64 ((x2:Int)-128))))))+(x3:Int)))-128)=((262144 * (x0-240)+4096 * (x1-128)+64 * (x2-128)+(x3-128):Nat):Int):=by
  rw [w64 (x:=(x0:Int)-240) (by omega) (by omega),w64 (x:=(x1:Int)-128) (by omega) (by omega),w64 (x:=(x2:Int)-128) (by omega) (by omega),w64 (x:=262144 * ((x0:Int)-240)) (by omega) (by omega),w64 (x:=4096 * ((x1:Int)-128)) (by omega) (by omega),w64 (x:=64 * ((x2:Int)-128)) (by omega) (by omega),w64 (x:=262144 * ((x0:Int)-240)+4096 * ((x1:Int)-128)) (by omega) (by omega),w64 (x:=262144 * ((x0:Int)-240)+4096 * ((x1:Int)-128)+64 * ((x2:Int)-128)) (by omega) (by omega),w64 (x:=262144 * ((x0:Int)-240)+4096 * ((x1:Int)-128)+64 * ((x2:Int)-128)+x3) (by omega) (by omega),w64 (by omega) (by omega)]
  omega
theorem first_dec (s:ByteArray) (k:Nat):R02_First.f (k+5) s=some (((dec s.data.toList).1:Int),((dec s.data.toList).2:Int)):=by
  have e0:bt s 0=byt s.data.toList 0:=bt_byt s 0
  have e1:bt s 1=byt s.data.toList 1:=bt_byt s 1
  have e2:bt s 2=byt s.data.toList 2:=bt_byt s 2
  have e3:bt s 3=byt s.data.toList 3:=bt_byt s 3
  have b0:=byt_lt s.data.toList 0
  have b1:=byt_lt s.data.toList 1
  have b2:=byt_lt s.data.toList 2
  have b3:=byt_lt s.data.toList 3
  have t1:=tail_tl s 1 1 rfl
  have t2:=tail_tl s 2 2 rfl
  have t3:=tail_tl s 3 3 rfl
  unfold dec
  rw [data_length]
  simp only [R02_First.f,R02_First.j0,R02_First.j1,R02_First.j2,R02_First.j3,t1,t2,t3,e0,e1,e2,e3,toList_nil,Option.bind_some,decide_eq_true_eq]
  clear e0 e1 e2 e3 t1 t2 t3
  generalize byt s.data.toList 0=x0 at *
  generalize byt s.data.toList 1=x1 at *
  generalize byt s.data.toList 2=x2 at *
  generalize byt s.data.toList 3=x3 at *
  generalize s.size=n at *
  have w0:wrap64 (x0:Int)=x0:=w64 (by omega) (by omega)
  have w1:wrap64 (x1:Int)=x1:=w64 (by omega) (by omega)
  have w2:wrap64 (x2:Int)=x2:=w64 (by omega) (by omega)
  have w3:wrap64 (x3:Int)=x3:=w64 (by omega) (by omega)
  simp only [w0,w1,w2,w3]
  clear w0 w1 w2 w3
  by_cases c:n=0
  · rw [if_pos c];unfold decR;rw [if_pos c];rfl
  rw [if_neg c,if_pos (by omega)]
  by_cases c0:x0<128
  · rw [if_pos (by omega)];unfold decR;rw [if_neg c,if_pos c0];rfl
  rw [if_neg (by omega)]
  by_cases c2:x0<224
  · have n1:¬ (224:Int)≤x0:=by omega
    have n2:¬ (240:Int)≤x0:=by omega
    have n3:(x0:Int)<224:=by omega
    by_cases k:194≤x0∧tl n 1 x1
    · have k':=k.2
      unfold tl at k'
      have hR:decR n x0 x1 x2 x3=(64 * (x0-192)+(x1-128),2):=by
        unfold decR;rw [if_neg c,if_neg c0,if_pos ⟨k.1,c2,k.2⟩]
      rw [hR,if_pos (by omega),if_pos (by omega),if_pos k.2,if_pos (by omega)]
      rw [w64 (by omega) (by omega:((x0:Int)-192)≤_),w64 (x:=64 * ((x0:Int)-192)) (by omega) (by omega),w64 (x:=64 * ((x0:Int)-192)+x1) (by omega) (by omega),w64 (x:=64 * ((x0:Int)-192)+x1-128) (by omega) (by omega)]
      exact congrArg some (Prod.ext (by show _=_;simp only;omega) rfl)
    · have hR:decR n x0 x1 x2 x3=(0,0):=by
        unfold decR;rw [if_neg c,if_neg c0,if_neg (fun h=>k ⟨h.1,h.2.2⟩),if_neg (fun h=>absurd h.1 (by omega)),if_neg (fun h=>absurd h.1 (by omega))]
      rw [hR]
      by_cases h1:(194:Int)≤x0
      · have h2:¬ tl n 1 x1:=fun h=>k ⟨by omega,h⟩
        simp only [ge_iff_le,h1,h2,n1,n2,n3,if_true,if_false,Bool.false_eq_true]
        rfl
      · simp only [ge_iff_le,h1,n1,n2,if_true,if_false,Bool.false_eq_true]
        rfl
  have n0:(194:Int)≤x0:=by omega
  have n1:(224:Int)≤x0:=by omega
  have n3:¬ (x0:Int)<224:=by omega
  by_cases c3:x0<240
  · have n2:¬ (240:Int)≤x0:=by omega
    have n4:(x0:Int)<240:=by omega
    simp only [ge_iff_le,n0,n1,n2,n3,n4,if_true,if_false,Bool.false_eq_true]
    by_cases k:tl n 1 x1∧tl n 2 x2
    · have k1:=k.1
      have k2:=k.2
      unfold tl at k1 k2
      simp only [k.1,k.2,if_true]
      rw [if_pos (by omega),if_pos (by omega),V3 x0 x1 x2 (by omega) k1.2 k2.2]
      by_cases q:2048≤4096 * (x0-224)+64 * (x1-128)+(x2-128)∧(4096 * (x0-224)+64 * (x1-128)+(x2-128)<55296∨57343<4096 * (x0-224)+64 * (x1-128)+(x2-128))
      · have hR:decR n x0 x1 x2 x3=(4096 * (x0-224)+64 * (x1-128)+(x2-128),3):=by
          unfold decR;rw [if_neg c,if_neg c0,if_neg (by omega),if_pos ⟨by omega,c3,k.1,k.2,q⟩]
        rw [hR,if_pos (by omega)]
        by_cases q2:4096 * (x0-224)+64 * (x1-128)+(x2-128)<55296
        · rw [if_pos (by omega)];rfl
        · rw [if_neg (by omega),if_pos (by omega)];rfl
      · have hR:decR n x0 x1 x2 x3=(0,0):=by
          unfold decR;rw [if_neg c,if_neg c0,if_neg (by omega),if_neg (fun h=>q h.2.2.2.2),if_neg (by omega)]
        rw [hR]
        by_cases q2:2048≤4096 * (x0-224)+64 * (x1-128)+(x2-128)
        · rw [if_pos (by omega),if_neg (by omega),if_neg (by omega)];rfl
        · rw [if_neg (by omega)];rfl
    · have hR:decR n x0 x1 x2 x3=(0,0):=by
        unfold decR;rw [if_neg c,if_neg c0,if_neg (by omega),if_neg (fun h=>k ⟨h.2.2.1,h.2.2.2.1⟩),if_neg (by omega)]
      rw [hR]
      by_cases h1:tl n 1 x1
      · have h2:¬ tl n 2 x2:=fun h=>k ⟨h1,h⟩
        simp only [h1,h2,if_true,if_false];rfl
      · simp only [h1,if_true,if_false,Bool.false_eq_true];rfl
  have n2:(240:Int)≤x0:=by omega
  have n4:¬ (x0:Int)<240:=by omega
  simp only [ge_iff_le,n0,n1,n2,n3,n4,if_true,if_false,Bool.false_eq_true]
  by_cases c4:x0<245
  · have n5:(x0:Int)<245:=by omega
    simp only [n5,if_true]
    by_cases k:tl n 1 x1∧tl n 2 x2∧tl n 3 x3
    · have k1:=k.1
      have k2:=k.2.1
      have k3:=k.2.2
      unfold tl at k1 k2 k3
      simp only [k.1,k.2.1,k.2.2,if_true]
      rw [if_pos (by omega),if_pos (by omega),if_pos (by omega),V4 x0 x1 x2 x3 (by omega) k1.2 k2.2 k3.2]
      by_cases q:65536≤262144 * (x0-240)+4096 * (x1-128)+64 * (x2-128)+(x3-128)∧262144 * (x0-240)+4096 * (x1-128)+64 * (x2-128)+(x3-128)≤1114111
      · have hR:decR n x0 x1 x2 x3=(262144 * (x0-240)+4096 * (x1-128)+64 * (x2-128)+(x3-128),4):=by
          unfold decR;rw [if_neg c,if_neg c0,if_neg (by omega),if_neg (by omega),if_pos ⟨by omega,c4,k.1,k.2.1,k.2.2,q⟩]
        rw [hR,if_pos (by omega),if_pos (by omega)];rfl
      · have hR:decR n x0 x1 x2 x3=(0,0):=by
          unfold decR;rw [if_neg c,if_neg c0,if_neg (by omega),if_neg (by omega),if_neg (fun h=>q h.2.2.2.2.2)]
        rw [hR]
        by_cases q2:65536≤262144 * (x0-240)+4096 * (x1-128)+64 * (x2-128)+(x3-128)
        · rw [if_pos (by omega),if_neg (by omega)];rfl
        · rw [if_neg (by omega)];rfl
    · have hR:decR n x0 x1 x2 x3=(0,0):=by
        unfold decR;rw [if_neg c,if_neg c0,if_neg (by omega),if_neg (by omega),if_neg (fun h=>k ⟨h.2.2.1,h.2.2.2.1,h.2.2.2.2.1⟩)]
      rw [hR]
      by_cases h1:tl n 1 x1
      · by_cases h2:tl n 2 x2
        · have h3:¬ tl n 3 x3:=fun h=>k ⟨h1,h2,h⟩
          simp only [h1,h2,h3,if_true,if_false];rfl
        · simp only [h1,h2,if_true,if_false,Bool.false_eq_true];rfl
      · simp only [h1,if_true,if_false,Bool.false_eq_true];rfl
  · have n5:¬ (x0:Int)<245:=by omega
    have hR:decR n x0 x1 x2 x3=(0,0):=by
      unfold decR;rw [if_neg c,if_neg c0,if_neg (by omega),if_neg (by omega),if_neg (by omega)]
    rw [hR]
    simp only [n5,if_false,Bool.false_eq_true];rfl
theorem extract_toList (s:ByteArray) (i:Nat):(s.extract i s.size).data.toList=s.data.toList.drop i:=by
  have e:s.size=s.data.toList.length:=(Array.length_toList).symm
  rw [ByteArray.data_extract,Array.toList_extract,e]
  simp [List.extract]
  exact List.take_of_length_le (by rw [List.length_drop];omega)
theorem valid_l0 (s:ByteArray) (hs:s.size<1000000) (k:Nat):∀ (m i:Nat),i≤s.size→s.size-i≤m→R02_Valid.l0 (k+m+6) s i=some (validF m (s.data.toList.drop i))
  | m,i,h1,h2=>by
    by_cases hi:i=s.size
    · have e:s.data.toList.drop i=[]:=List.drop_of_length_le (by rw [data_length];omega)
      have hf:validF m []=true:=by cases m<;>rfl
      rw [e,hf]
      show R02_Valid.l0 (k+m+5+1) s i=_
      simp only [R02_Valid.l0]
      rw [if_neg (by omega)]
    · obtain ⟨m,rfl⟩:∃ q,m=q+1:=⟨m-1,by omega⟩
      have hl:(s.data.toList.drop i).length=s.size-i:=by rw [List.length_drop,data_length]
      have hne:¬ ((s.data.toList.drop i).isEmpty=true):=by
        intro h;rw [List.isEmpty_iff] at h;rw [h] at hl;simp at hl;omega
      have hw:=dec_width (s.data.toList.drop i)
      have hf:=first_dec (s.extract i s.size) (k+m+1)
      rw [extract_toList] at hf
      show R02_Valid.l0 (k+m+6+1) s i=_
      rw [R02_Valid.l0]
      rw [if_pos (by omega),if_pos (by omega),if_pos (by omega),Int.toNat_natCast,show k+m+6=k+m+1+5 by omega,hf]
      simp only [Option.bind_some]
      by_cases hz:(dec (s.data.toList.drop i)).2=0
      · rw [if_pos (by omega)]
        unfold validF
        rw [if_neg hne,if_pos hz]
      · rw [if_neg (by omega),w64 (by omega) (by omega)]
        have hv:=valid_l0 s hs k m (i+(dec (s.data.toList.drop i)).2) (by omega) (by omega)
        rw [show ((i:Int)+((dec (s.data.toList.drop i)).2:Int))=((i+(dec (s.data.toList.drop i)).2:Nat):Int) by omega,show k+m+1+5=k+m+6 by omega,hv]
        conv=>rhs;unfold validF
        rw [if_neg hne,if_neg hz,List.drop_drop]
theorem valid_ev (s:ByteArray) (hs:s.size<1000000) (k:Nat) (hk:s.size+6≤k):R02_Valid.f k s=some (validD s.data.toList):=by
  have h:=valid_l0 s hs (k-s.size-6) s.size 0 (by omega) (by omega)
  rw [validD_validF,data_length]
  unfold R02_Valid.f
  rw [show k-s.size-6+s.size+6=k by omega] at h
  exact h
theorem byt_drop (l:List UInt8) (i j:Nat):byt (l.drop i) j=byt l (i+j):=by
  unfold byt
  rw [List.getD_eq_getElem?_getD,List.getD_eq_getElem?_getD,List.getElem?_drop]
theorem size_len (b:ByteArray):b.size=b.data.toList.length:=(Array.length_toList).symm
theorem get_byt2 (s:ByteArray) (i:Nat):(s.get! i).toNat=byt s.data.toList i:=by
  have:=get_byt s.data.toList i
  have e:(⟨s.data.toList.toArray⟩:ByteArray)=s:=by cases s;simp
  rwa [e] at this
theorem decode_drop (s:ByteArray) (i:Nat):Utf8.decode s i=decodeL (s.data.toList.drop i):=by
  rw [decode_at,decodeL_byt,get_byt2,get_byt2,get_byt2,get_byt2,byt_drop,byt_drop,byt_drop,byt_drop,List.length_drop,← size_len]
  rfl
theorem decode_dec (s:ByteArray) (i:Nat) (hi:i<s.size) (h:(dec (s.data.toList.drop i)).2≠0):Utf8.decode s i=dec (s.data.toList.drop i):=by
  have hne:s.data.toList.drop i≠[]:=by
    intro e
    have:=congrArg List.length e
    rw [List.length_drop,← size_len] at this
    simp at this
    omega
  rw [decode_drop]
  have e:=dec_decodeL _ hne
  by_cases hb:decodeL (s.data.toList.drop i)=(65533,1)
  · rw [if_pos hb] at e;rw [e] at h;exact absurd rfl h
  · rw [if_neg hb] at e;exact e.symm
def runesF:Nat→List UInt8→List Nat
  | 0,_=>[]
  | f+1,l=>if l.isEmpty then [] else if (dec l).2=0 then [] else (dec l).1 :: runesF f (l.drop (dec l).2)
def runesOf (l:List UInt8):List Nat:=runesF l.length l
def ints (l:List Nat):List Int:=l.map (fun x:Nat=>(x:Int))
theorem runes_l0 (s:ByteArray) (hs:s.size<1000000) (k:Nat):∀ (m i:Nat) (xs:List Int),i≤s.size→s.size-i≤m→xs.length≤i→R02_Runes.l0 (k+m+7) s xs (i:Int)=some (xs++ints (runesF m (s.data.toList.drop i)))
  | 0,i,xs,h1,h2,h3=>by
    rw [show k+0+7=k+6+1 by omega,R02_Runes.l0,if_neg (by omega)]
    show some xs=some (xs++[])
    rw [List.append_nil]
  | m+1,i,xs,h1,h2,h3=>by
    have hl:(s.data.toList.drop i).length=s.size-i:=by rw [List.length_drop,← size_len]
    rw [show k+(m+1)+7=k+m+7+1 by omega,R02_Runes.l0,runesF]
    by_cases hi:i=s.size
    · have e:s.data.toList.drop i=[]:=List.drop_of_length_le (by rw [← size_len];omega)
      rw [if_neg (by omega),e]
      show some xs=some (xs++[])
      rw [List.append_nil]
    · have hne:¬ ((s.data.toList.drop i).isEmpty=true):=by
        intro h;rw [List.isEmpty_iff] at h;rw [h] at hl;simp at hl;omega
      have hw:=dec_width (s.data.toList.drop i)
      have hf:=first_dec (s.extract i s.size) (k+m+2)
      rw [extract_toList] at hf
      rw [if_neg hne,if_pos (by omega),if_pos (by omega),if_pos (by omega),Int.toNat_natCast,show k+m+7=k+m+2+5 by omega,hf,Option.bind_some]
      dsimp only
      by_cases hz:(dec (s.data.toList.drop i)).2=0
      · rw [if_pos (by omega),if_pos hz]
        show some xs=some (xs++[])
        rw [List.append_nil]
      · rw [if_neg (by omega),if_neg hz,if_pos (by omega),w64 (by omega) (by omega),show ((i:Int)+((dec (s.data.toList.drop i)).2:Int))=((i+(dec (s.data.toList.drop i)).2:Nat):Int) by omega,show k+m+2+5=k+m+7 by omega]
        rw [runes_l0 s hs k m (i+(dec (s.data.toList.drop i)).2) _ (by omega) (by omega) (by rw [List.length_append];show xs.length+1≤_;omega),List.append_assoc,← List.drop_drop]
        rfl
theorem runes_ev (s:ByteArray) (hs:s.size<1000000) (k:Nat) (hk:s.size+7≤k):R02_Runes.f k s=some (ints (runesOf s.data.toList)):=by
  have h:=runes_l0 s hs 0 s.size 0 [] (by omega) (by omega) (by simp)
  have h0:R02_Runes.f (s.size+7) s=some (ints (runesOf s.data.toList)):=by
    unfold R02_Runes.f runesOf
    rw [← size_len]
    rw [show 0+s.size+7=s.size+7 by omega] at h
    exact h
  exact at_rounds (fun k=>R02_Runes.mono s k) hk h0
theorem dec_enc (l:List UInt8) (h:(dec l).2≠0):decodeL l=dec l∧((dec l).1<55296∨(57343<(dec l).1∧(dec l).1≤1114111))∧encodeRune ((dec l).1:Int)=l.take (dec l).2∧l≠[]:=by
  have hne:l≠[]:=by
    rintro rfl
    exact h rfl
  have e:=dec_decodeL l hne
  have e2:¬ decodeL l=(65533,1):=fun hh=>by rw [if_pos hh] at e;rw [e] at h;exact h rfl
  rw [if_neg e2] at e
  refine ⟨e.symm,?_,?_,hne⟩
  · have h0:=byt_lt l 0
    have h1:=byt_lt l 1
    have h2:=byt_lt l 2
    have h3:=byt_lt l 3
    revert h
    unfold dec decR tl
    repeat' split
    all_goals first|(intro h;exact absurd rfl h)|(intro h;simp only;omega)
  · rw [e]
    exact encode_decode l hne (fun hh=>e2 (Prod.ext hh.1 hh.2))
def okC (c:Nat):Prop:=c<55296∨(57343<c∧c≤1114111)
theorem u8n (n:Nat) (h:n<256):(n.toUInt8).toNat=n:=by
  show (UInt8.ofNat n).toNat=n
  rw [UInt8.toNat_ofNat'];omega
theorem byt0 (b:UInt8) (l:List UInt8):byt (b :: l) 0=b.toNat:=rfl
theorem byt1 (a b:UInt8) (l:List UInt8):byt (a :: b :: l) 1=b.toNat:=rfl
theorem byt2 (a b c:UInt8) (l:List UInt8):byt (a :: b :: c :: l) 2=c.toNat:=rfl
theorem byt3 (a b c d:UInt8) (l:List UInt8):byt (a :: b :: c :: d :: l) 3=d.toNat:=rfl
theorem dec_encode (c:Nat) (h:okC c) (l:List UInt8):dec (encodeRune (c:Int)++l)=(c,(encodeRune (c:Int)).length):=by
  unfold okC at h
  unfold encodeRune
  by_cases c1:c<128
  · rw [encodeRuneZ_one (by omega) (by omega)]
    simp only [List.map_cons,List.map_nil,List.cons_append,List.nil_append,Int.toNat_natCast]
    unfold dec decR
    rw [byt0,u8n c (by omega),if_neg (by simp),if_pos c1]
    rfl
  by_cases c2:c<2048
  · rw [encodeRuneZ_two (by omega) (by omega)]
    simp only [List.map_cons,List.map_nil,List.cons_append,List.nil_append]
    rw [show (192+(c:Int) / 64).toNat=192+c / 64 by omega,show (128+(c:Int) % 64).toNat=128+c % 64 by omega]
    unfold dec decR tl
    rw [byt0,byt1,u8n _ (by omega),u8n _ (by omega),if_neg (by simp),if_neg (by omega),if_pos ⟨by omega,by omega,by simp,by omega,by omega⟩]
    exact Prod.ext (by show 64 * (192+c / 64-192)+(128+c % 64-128)=c;omega) rfl
  by_cases c3:c<65536
  · rw [encodeRuneZ_three (by omega)]
    simp only [List.map_cons,List.map_nil,List.cons_append,List.nil_append]
    rw [show (224+(c:Int) / 4096).toNat=224+c / 4096 by omega,show (128+(c:Int) / 64 % 64).toNat=128+c / 64 % 64 by omega,show (128+(c:Int) % 64).toNat=128+c % 64 by omega]
    have e:4096 * (224+c / 4096-224)+64 * (128+c / 64 % 64-128)+(128+c % 64-128)=c:=by omega
    unfold dec decR tl
    rw [byt0,byt1,byt2,u8n _ (by omega),u8n _ (by omega),u8n _ (by omega),if_neg (by simp),if_neg (by omega),if_neg (by omega),if_pos ⟨by omega,by omega,⟨by simp,by omega,by omega⟩,⟨by simp,by omega,by omega⟩,by omega,by omega⟩]
    exact Prod.ext e rfl
  · rw [encodeRuneZ_four (by omega) (by omega)]
    simp only [List.map_cons,List.map_nil,List.cons_append,List.nil_append]
    rw [show (240+(c:Int) / 262144).toNat=240+c / 262144 by omega,show (128+(c:Int) / 4096 % 64).toNat=128+c / 4096 % 64 by omega,show (128+(c:Int) / 64 % 64).toNat=128+c / 64 % 64 by omega,show (128+(c:Int) % 64).toNat=128+c % 64 by omega]
    have e:262144 * (240+c / 262144-240)+4096 * (128+c / 4096 % 64-128)+64 * (128+c / 64 % 64-128)+(128+c % 64-128)=c:=by omega
    unfold dec decR tl
    rw [byt0,byt1,byt2,byt3,u8n _ (by omega),u8n _ (by omega),u8n _ (by omega),u8n _ (by omega),if_neg (by simp),if_neg (by omega),if_neg (by omega),if_neg (by omega),if_pos ⟨by omega,by omega,⟨by simp,by omega,by omega⟩,⟨by simp,by omega,by omega⟩,⟨by simp,by omega,by omega⟩,by omega,by omega⟩]
    exact Prod.ext e rfl
def encL:List Nat→List UInt8
  | []=>[]
  | c :: cs=>encodeRune (c:Int)++encL cs
theorem enc_pos (c:Nat):1≤(encodeRune (c:Int)).length:=by
  unfold encodeRune
  rw [List.length_map]
  exact (encodeRuneZ_length (c:Int)).1
theorem runes_enc:∀ (cs:List Nat) (m:Nat),(∀ c∈cs,okC c)→(encL cs).length≤m→runesF m (encL cs)=cs∧validF m (encL cs)=true
  | [],m,h,hm=>by cases m<;>exact ⟨rfl,rfl⟩
  | c :: cs,m,h,hm=>by
    have hp:=enc_pos c
    rw [encL,List.length_append] at hm
    obtain ⟨m,rfl⟩:∃ q,m=q+1:=⟨m-1,by omega⟩
    have hd:=dec_encode c (h c (List.mem_cons_self ..)) (encL cs)
    have hne:¬ ((encL (c :: cs)).isEmpty=true):=by
      intro e
      rw [List.isEmpty_iff] at e
      have:=congrArg List.length e
      rw [encL,List.length_append,List.length_nil] at this
      omega
    obtain ⟨i1,i2⟩:=runes_enc cs m (fun x hx=>h x (List.mem_cons_of_mem _ hx)) (by omega)
    rw [runesF,validF,if_neg hne,if_neg hne,encL,hd]
    dsimp only
    rw [if_neg (by omega),if_neg (by omega),List.drop_left,i1,i2]
    exact ⟨rfl,rfl⟩
theorem enc_runes:∀ (m:Nat) (l:List UInt8),l.length≤m→validF m l=true→encL (runesF m l)=l∧∀ c∈runesF m l,okC c
  | 0,l,hl,hv=>by
    have:l=[]:=List.eq_nil_of_length_eq_zero (by omega)
    subst this
    exact ⟨rfl,fun c hc=>by simp [runesF] at hc⟩
  | m+1,l,hl,hv=>by
    by_cases he:l.isEmpty=true
    · rw [runesF,if_pos he]
      rw [List.isEmpty_iff] at he
      subst he
      exact ⟨rfl,fun c hc=>by simp at hc⟩
    · rw [validF,if_neg he] at hv
      by_cases hz:(dec l).2=0
      · rw [if_pos hz] at hv;cases hv
      · rw [if_neg hz] at hv
        obtain ⟨_,ho,hen,_⟩:=dec_enc l hz
        obtain ⟨i1,i2⟩:=enc_runes m (l.drop (dec l).2) (by rw [List.length_drop];omega) hv
        rw [runesF,if_neg he,if_neg hz,encL,i1,hen,List.take_append_drop]
        refine ⟨rfl,fun c hc=>?_⟩
        rcases List.mem_cons.1 hc with rfl|hc
        · exact ho
        · exact i2 c hc
theorem valid_runes (a:ByteArray) (hv:validD a.data.toList=true):encL (runesOf a.data.toList)=a.data.toList∧∀ c∈runesOf a.data.toList,okC c:=by
  rw [validD_validF] at hv
  exact enc_runes _ _ (Nat.le_refl _) hv
theorem valid_runesL (x:List UInt8) (h:validD x=true):encL (runesOf x)=x∧∀ c∈runesOf x,okC c:=valid_runes ⟨x.toArray⟩ h
theorem count_runes (s:ByteArray):∀ (cs:List Nat) (f pos:Nat),(∀ c∈cs,okC c)→pos≤s.size→s.data.toList.drop pos=encL cs→s.size-pos≤f→Lib.runeCountFrom s f pos=cs.length
  | [],f,pos,ho,hp,hd,hf=>by
    have hl:=congrArg List.length hd
    rw [List.length_drop,← size_len] at hl
    have e:(encL []).length=0:=rfl
    exact Lib.runeCountFrom_end s f pos (by omega)
  | c :: cs,f,pos,ho,hp,hd,hf=>by
    have hl:=congrArg List.length hd
    have hp1:=enc_pos c
    rw [List.length_drop,← size_len,encL,List.length_append] at hl
    have hlt:pos<s.size:=by omega
    obtain ⟨f,rfl⟩:∃ q,f=q+1:=⟨f-1,by omega⟩
    have hdec:dec (s.data.toList.drop pos)=(c,(encodeRune (c:Int)).length):=by rw [hd,encL];exact dec_encode c (ho c (List.mem_cons_self ..)) _
    have e:Utf8.decode s pos=(c,(encodeRune (c:Int)).length):=by
      rw [decode_dec s pos hlt (by rw [hdec];show (encodeRune (c:Int)).length≠0;omega),hdec]
    rw [Lib.runeCountFrom,if_pos hlt,e,List.length_cons]
    rw [count_runes s cs f (pos+(encodeRune (c:Int)).length) (fun x hx=>ho x (List.mem_cons_of_mem _ hx)) (by omega) (by rw [← List.drop_drop,hd,encL,List.drop_left]) (by omega)]
    omega
theorem count_ev (s:ByteArray) (hv:validD s.data.toList=true):Lib.runeCount s=(runesOf s.data.toList).length:=by
  obtain ⟨e1,o1⟩:=valid_runesL _ hv
  exact count_runes s _ s.size 0 o1 (Nat.zero_le _) e1.symm (by omega)
def smallI (c:Int):Int:=if (65≤c∧c≤90)∨(192≤c∧c≤222∧¬ c=215)∨(913≤c∧c≤937∧¬ c=930)∨(1040≤c∧c≤1071) then c+32 else c
theorem small_q (c:Int) (h0:0≤c) (hc:c≤1114111):name_Small.f c=some (smallI c):=by
  by_cases e1:c=215
  · subst e1;decide +kernel
  by_cases e3:c=930
  · subst e3;decide +kernel
  have n1:(c=215)=False:=eq_false e1
  have n3:(c=930)=False:=eq_false e3
  have hw:wrap32 (c+32)=c+32:=by unfold wrap32;omega
  have cs:c<65∨(65≤c∧c≤90)∨(91≤c∧c<192)∨(192≤c∧c≤222)∨(223≤c∧c<913)∨(913≤c∧c≤937)∨(938≤c∧c<1040)∨(1040≤c∧c≤1071)∨1072≤c:=by omega
  rcases cs with h|h|h|h|h|h|h|h|h
  all_goals (
    (first|have l65:(65≤c)=True:=eq_true (by omega)|have l65:(65≤c)=False:=eq_false (by omega));(first|have u90:(c≤90)=True:=eq_true (by omega)|have u90:(c≤90)=False:=eq_false (by omega))
    (first|have l192:(192≤c)=True:=eq_true (by omega)|have l192:(192≤c)=False:=eq_false (by omega));(first|have u222:(c≤222)=True:=eq_true (by omega)|have u222:(c≤222)=False:=eq_false (by omega))
    (first|have l913:(913≤c)=True:=eq_true (by omega)|have l913:(913≤c)=False:=eq_false (by omega));(first|have u937:(c≤937)=True:=eq_true (by omega)|have u937:(c≤937)=False:=eq_false (by omega))
    (first|have l1040:(1040≤c)=True:=eq_true (by omega)|have l1040:(1040≤c)=False:=eq_false (by omega));(first|have u1071:(c≤1071)=True:=eq_true (by omega)|have u1071:(c≤1071)=False:=eq_false (by omega))
    simp only [name_Small.f,name_between.f,smallI,ge_iff_le,n1,n3,hw,l65,u90,l192,u222,l913,u937,l1040,u1071,Option.bind_some,decide_true,decide_false,Bool.false_eq_true,Bool.true_eq_false,if_true,if_false,reduceIte,and_true,true_and,and_false,false_and,or_true,true_or,or_false,false_or,and_self,or_self,not_true,not_false_eq_true,ne_eq])
theorem small_r (c:Int) (h0:0≤c) (hc:c≤1114111):R02_Small.f c=some (smallI c):=by
  by_cases e1:c=215
  · subst e1;decide +kernel
  by_cases e3:c=930
  · subst e3;decide +kernel
  have n1:(c=215)=False:=eq_false e1
  have n3:(c=930)=False:=eq_false e3
  have hw:wrap64 (c+32)=c+32:=by unfold wrap64;omega
  have cs:c<65∨(65≤c∧c≤90)∨(91≤c∧c<192)∨(192≤c∧c≤222)∨(223≤c∧c<913)∨(913≤c∧c≤937)∨(938≤c∧c<1040)∨(1040≤c∧c≤1071)∨1072≤c:=by omega
  rcases cs with h|h|h|h|h|h|h|h|h
  all_goals (
    (first|have l65:(65≤c)=True:=eq_true (by omega)|have l65:(65≤c)=False:=eq_false (by omega));(first|have u90:(c≤90)=True:=eq_true (by omega)|have u90:(c≤90)=False:=eq_false (by omega))
    (first|have l192:(192≤c)=True:=eq_true (by omega)|have l192:(192≤c)=False:=eq_false (by omega));(first|have u222:(c≤222)=True:=eq_true (by omega)|have u222:(c≤222)=False:=eq_false (by omega))
    (first|have l913:(913≤c)=True:=eq_true (by omega)|have l913:(913≤c)=False:=eq_false (by omega));(first|have u937:(c≤937)=True:=eq_true (by omega)|have u937:(c≤937)=False:=eq_false (by omega))
    (first|have l1040:(1040≤c)=True:=eq_true (by omega)|have l1040:(1040≤c)=False:=eq_false (by omega));(first|have u1071:(c≤1071)=True:=eq_true (by omega)|have u1071:(c≤1071)=False:=eq_false (by omega))
    simp only [R02_Small.f,smallI,ge_iff_le,n1,n3,hw,l65,u90,l192,u222,l913,u937,l1040,u1071,Option.bind_some,decide_true,decide_false,Bool.false_eq_true,Bool.true_eq_false,if_true,if_false,reduceIte,and_true,true_and,and_false,false_and,or_true,true_or,or_false,false_or,and_self,or_self,not_true,not_false_eq_true,ne_eq])
theorem small_ok (c:Nat) (h:okC c):okC (smallI (c:Int)).toNat∧smallI (c:Int)=(((smallI (c:Int)).toNat:Nat):Int):=by
  unfold okC at *
  unfold smallI
  split<;>omega
theorem tdB (a b:Nat):Int.tdiv (a:Int) (b:Int)=((a / b:Nat):Int):=by
  rw [Int.tdiv_eq_ediv_of_nonneg (by omega)];rfl
theorem tmB (a b:Nat):Int.tmod (a:Int) (b:Int)=((a % b:Nat):Int):=by
  rw [Int.tmod_eq_emod_of_nonneg (by omega)];rfl
theorem dwB (c b:Nat) (hb:0<b) (h:c≤1114111):wrap64 (Int.tdiv (c:Int) (b:Int))=((c / b:Nat):Int):=by
  rw [tdB]
  have:c / b≤c:=Nat.div_le_self c b
  generalize c / b=q at this
  rw [w64 (by omega) (by omega)]
theorem bytesR_q (c:Nat) (h:okC c):R02_Bytes.f (c:Int)=some ⟨(encodeRune (c:Int)).toArray⟩:=by
  have hc:c≤1114111:=by unfold okC at h;omega
  unfold R02_Bytes.f
  rw [show wrap64 (Int.tdiv (c:Int) 64)=((c / 64:Nat):Int) from dwB c 64 (by decide) hc,show wrap64 (Int.tdiv (c:Int) 4096)=((c / 4096:Nat):Int) from dwB c 4096 (by decide) hc,show wrap64 (Int.tdiv (c:Int) 262144)=((c / 262144:Nat):Int) from dwB c 262144 (by decide) hc,
    show Int.tmod (c:Int) 64=((c % 64:Nat):Int) from tmB c 64,show Int.tmod ((c / 64:Nat):Int) 64=((c / 64 % 64:Nat):Int) from tmB (c / 64) 64,show Int.tmod ((c / 4096:Nat):Int) 64=((c / 4096 % 64:Nat):Int) from tmB (c / 4096) 64]
  by_cases h1:c<128
  · rw [if_pos (by omega)]
    unfold encodeRune
    rw [encodeRuneZ_one (by omega) (by omega),show ((c:Int)) % 256=c by omega];rfl
  rw [if_neg (by omega)]
  have b2:(128+((c % 64:Nat):Int)) % 256=128+(c:Int) % 64:=by omega
  by_cases h2:c<2048
  · rw [if_pos (by omega)]
    unfold encodeRune
    rw [encodeRuneZ_two (by omega) (by omega),w64 (by omega) (by omega),w64 (by omega) (by omega),b2,show (192+((c / 64:Nat):Int)) % 256=192+(c:Int) / 64 by omega];rfl
  rw [if_neg (by omega)]
  have b3:(128+((c / 64 % 64:Nat):Int)) % 256=128+(c:Int) / 64 % 64:=by omega
  by_cases h3:c<65536
  · rw [if_pos (by omega)]
    unfold encodeRune
    rw [encodeRuneZ_three (by unfold okC at h;omega),w64 (by omega) (by omega),w64 (by omega) (by omega),w64 (by omega) (by omega),b2,b3,show (224+((c / 4096:Nat):Int)) % 256=224+(c:Int) / 4096 by omega];rfl
  · rw [if_neg (by omega)]
    unfold encodeRune
    rw [encodeRuneZ_four (by omega) (by omega),w64 (by omega) (by omega),w64 (by omega) (by omega),w64 (by omega) (by omega),w64 (by omega) (by omega),b2,b3,show (128+((c / 4096 % 64:Nat):Int)) % 256=128+(c:Int) / 4096 % 64 by omega,show (240+((c / 262144:Nat):Int)) % 256=240+(c:Int) / 262144 by omega];rfl
def smallN (c:Nat):Nat:=(smallI (c:Int)).toNat
theorem fold_go (s:ByteArray):∀ (cs:List Nat) (f pos:Nat) (acc:List Int),(∀ c∈cs,okC c)→pos≤s.size→s.data.toList.drop pos=encL cs→s.size-pos<f→name_Fold.go s f pos acc=some (acc++ints (cs.map smallN))
  | cs,0,pos,acc,ho,hp,hd,hf=>by omega
  | [],f+1,pos,acc,ho,hp,hd,hf=>by
    have hl:=congrArg List.length hd
    rw [List.length_drop,← size_len] at hl
    have e:(encL []).length=0:=rfl
    rw [name_Fold.go,if_neg (by omega)]
    show some acc=some (acc++[])
    rw [List.append_nil]
  | c :: cs,f+1,pos,acc,ho,hp,hd,hf=>by
    have hl:=congrArg List.length hd
    have hp1:=enc_pos c
    rw [List.length_drop,← size_len,encL,List.length_append] at hl
    have hlt:pos<s.size:=by omega
    have hdec:dec (s.data.toList.drop pos)=(c,(encodeRune (c:Int)).length):=by rw [hd,encL];exact dec_encode c (ho c (List.mem_cons_self ..)) _
    have e:Utf8.decode s pos=(c,(encodeRune (c:Int)).length):=by
      rw [decode_dec s pos hlt (by rw [hdec];show (encodeRune (c:Int)).length≠0;omega),hdec]
    have hc:=ho c (List.mem_cons_self ..)
    have ih:=fun b=>fold_go s cs f (pos+(encodeRune (c:Int)).length) b (fun x hx=>ho x (List.mem_cons_of_mem _ hx)) (by omega) (by rw [← List.drop_drop,hd,encL,List.drop_left]) (by omega)
    rw [name_Fold.go,if_pos hlt,e]
    dsimp only
    rw [small_q (c:Int) (by omega) (by unfold okC at hc;omega),Option.bind_some,ih,(small_ok c hc).2,List.append_assoc]
    rfl
theorem bytes_e4 (c:Nat) (h:okC c):∃ E:ByteArray,R02_Bytes.f (c:Int)=some E∧E.size≤4∧E=⟨(encodeRune (c:Int)).toArray⟩:=by
  refine ⟨_,bytesR_q c h,?_,rfl⟩
  rw [size_len]
  have h4:(encodeRune (c:Int)).length≤4:=by unfold encodeRune;rw [List.length_map];exact (encodeRuneZ_length (c:Int)).2
  generalize encodeRune (c:Int)=l at h4
  exact h4
theorem rdi2 (p:List Nat) (i:Nat) (h:i<p.length):rd (ints p) (i:Int)=((p[i]:Nat):Int):=by
  unfold rd ints
  rw [Int.toNat_natCast,List.getD_eq_getElem?_getD,List.getElem?_map,List.getElem?_eq_getElem h];rfl
theorem w1n2 (i:Nat) (h:i<200000):wrap64 ((i:Int)+1)=((i+1:Nat):Int):=by rw [w64 (by omega) (by omega)];omega
theorem foldr_l0 (cs:List Nat) (hl:cs.length<100000) (ho:∀ c∈cs,okC c) (k:Nat):∀ (m i:Nat) (t:ByteArray),i+m=cs.length→t.size≤4 * i →
    R02_Fold.l0 (k+m+1) (ints cs) t (i:Int)=some (t++⟨(encL ((cs.drop i).map smallN)).toArray⟩)
  | 0,i,t,hi,ht=>by
    have h1:¬ ((i:Int)<((ints cs).length:Int)):=by unfold ints;rw [List.length_map];omega
    rw [R02_Fold.l0,if_neg h1,List.drop_of_length_le (by omega)]
    refine congrArg some (ByteArray.ext (Array.ext' ?_))
    rw [ByteArray.data_append,Array.toList_append]
    exact (List.append_nil _).symm
  | m+1,i,t,hi,ht=>by
    have hlt:i<cs.length:=by omega
    have h1:(i:Int)<((ints cs).length:Int):=by unfold ints;rw [List.length_map];omega
    have hc:=ho cs[i] (List.getElem_mem _)
    obtain ⟨s1,s2⟩:=small_ok cs[i] hc
    obtain ⟨E,hE,hE4,hEE⟩:=bytes_e4 (smallN cs[i]) s1
    have hcat:t.size+E.size≤9223372036854775807:=by clear hE hEE s2;omega
    have hsz:(t++E).size≤4 * (i+1):=by clear hE hEE s2;rw [ByteArray.size_append];omega
    have h0:(0:Int)≤((cs[i]:Nat):Int):=Int.natCast_nonneg _
    have hmx:((cs[i]:Nat):Int)≤1114111:=by clear hE hEE s1 s2 hE4;unfold okC at hc;omega
    have ih:=foldr_l0 cs hl ho k m (i+1) (t++E) (by clear hE hEE s2;omega) hsz
    rw [show k+(m+1)+1=(k+m+1)+1 from rfl,R02_Fold.l0,if_pos h1,if_pos (Int.natCast_nonneg i),rdi2 cs i hlt,small_r _ h0 hmx,Option.bind_some,s2]
    show (R02_Bytes.f ((smallN cs[i]:Nat):Int)).bind _=_
    rw [hE,Option.bind_some,if_pos hcat,w1n2 i (by clear hE hEE s2;omega),ih,List.drop_eq_getElem_cons hlt]
    refine congrArg some (ByteArray.ext (Array.ext' ?_))
    rw [ByteArray.data_append,Array.toList_append,ByteArray.data_append,Array.toList_append,ByteArray.data_append,Array.toList_append,hEE,List.append_assoc]
    rfl
theorem enc_rune2 (r:Nat) (hv:r<55296∨(57343<r∧r≤1114111)):(Utf8.encode (r:Int)).data.toList=encodeRune (r:Int):=by
  have hvalid:Utf8.valid (r:Int)=true:=by
    unfold Utf8.valid
    simp only [Bool.or_eq_true,Bool.and_eq_true,decide_eq_true_eq]
    omega
  unfold Utf8.encode encodeRune
  simp only [hvalid,if_true,Int.toNat_natCast]
  by_cases c1:r<128
  · rw [if_pos c1,encodeRuneZ_one (by omega) (by omega)];simp
  by_cases c2:r<2048
  · rw [if_neg c1,if_pos c2,encodeRuneZ_two (by omega) (by omega)]
    simp only [List.map_cons,List.map_nil]
    rw [show (192+(r:Int) / 64).toNat=192+r / 64 by omega,show (128+(r:Int) % 64).toNat=128+r % 64 by omega]
  by_cases c3:r<65536
  · rw [if_neg c1,if_neg c2,if_pos c3,encodeRuneZ_three (by omega)]
    simp only [List.map_cons,List.map_nil]
    rw [show (224+(r:Int) / 4096).toNat=224+r / 4096 by omega,show (128+(r:Int) / 64 % 64).toNat=128+r / 64 % 64 by omega,show (128+(r:Int) % 64).toNat=128+r % 64 by omega]
  · rw [if_neg c1,if_neg c2,if_neg c3,encodeRuneZ_four (by omega) (by omega)]
    simp only [List.map_cons,List.map_nil]
    rw [show (240+(r:Int) / 262144).toNat=240+r / 262144 by omega,show (128+(r:Int) / 4096 % 64).toNat=128+r / 4096 % 64 by omega,show (128+(r:Int) / 64 % 64).toNat=128+r / 64 % 64 by omega,show (128+(r:Int) % 64).toNat=128+r % 64 by omega]
theorem foldl_enc:∀ (cs:List Nat) (r:ByteArray),(∀ c∈cs,okC c)→((ints cs).foldl (fun r n=>r++Utf8.encode n) r).data.toList=r.data.toList++encL cs
  | [],r,_=>(List.append_nil _).symm
  | c :: cs,r,ho=>by
    have ih:=foldl_enc cs (r++Utf8.encode (c:Int)) (fun x hx=>ho x (List.mem_cons_of_mem _ hx))
    refine ih.trans ?_
    rw [ByteArray.data_append,Array.toList_append,enc_rune2 c (ho c List.mem_cons_self),encL,List.append_assoc]
theorem runesBytes_enc (cs:List Nat) (ho:∀ c∈cs,okC c):runesBytes (ints cs)=⟨(encL cs).toArray⟩:=by
  refine ByteArray.ext (Array.ext' ?_)
  exact foldl_enc cs ByteArray.empty ho
def foldB (s:ByteArray):ByteArray:=if validD s.data.toList=true then ⟨(encL ((runesOf s.data.toList).map smallN)).toArray⟩ else s
theorem fold_q (s:ByteArray) (hs:s.size<1000000):name_Fold.f s=some (foldB s):=by
  unfold name_Fold.f foldB
  rw [if_pos (show s.size≤1099511627776 by omega)]
  by_cases hv:validD s.data.toList=true
  · obtain ⟨e1,o1⟩:=valid_runesL _ hv
    have hm:∀ c∈(runesOf s.data.toList).map smallN,okC c:=by
      intro c hc
      obtain ⟨x,hx,rfl⟩:=List.mem_map.1 hc
      exact (small_ok x (o1 x hx)).1
    rw [if_pos hv,if_pos hv,fold_go s _ (s.size+1) 0 [] o1 (Nat.zero_le _) e1.symm (by omega),Option.bind_some,List.nil_append,runesBytes_enc _ hm]
  · rw [if_neg hv,if_neg hv]
theorem encL_len2:∀ cs:List Nat,cs.length≤(encL cs).length
  | []=>Nat.le_refl _
  | c :: cs=>by
    have:=encL_len2 cs;have:=enc_pos c
    rw [encL,List.length_append,List.length_cons];omega
theorem fold_r (s:ByteArray) (hs:s.size<90000) (k:Nat) (hk:2 * s.size+20≤k):R02_Fold.f k s=some (foldB s):=by
  unfold R02_Fold.f foldB
  rw [valid_ev s (by omega) _ (by omega),Option.bind_some]
  by_cases hv:validD s.data.toList=true
  · obtain ⟨e1,o1⟩:=valid_runesL _ hv
    have hlen:(runesOf s.data.toList).length≤s.size:=by
      have:=encL_len2 (runesOf s.data.toList)
      rw [e1,← size_len] at this;exact this
    have h:=foldr_l0 (runesOf s.data.toList) (by omega) o1 (k-(runesOf s.data.toList).length-1) (runesOf s.data.toList).length 0 ⟨#[]⟩ (by omega) (Nat.le_refl _)
    rw [show k-(runesOf s.data.toList).length-1+(runesOf s.data.toList).length+1=k by omega,List.drop_zero] at h
    rw [if_pos hv,if_pos hv,runes_ev s (by omega) _ (by omega),Option.bind_some]
    refine h.trans (congrArg some (ByteArray.ext (Array.ext' ?_)))
    rw [ByteArray.data_append,Array.toList_append];rfl
  · rw [if_neg hv,if_neg hv]
theorem cmp_rune (a b:Int):cmp_Compare_rune.f a b=some (if a<b then -1 else if b<a then 1 else 0):=by
  unfold cmp_Compare_rune.f cmp_isNaN_rune.f
  simp only [bne_self_eq_false,Option.bind_some,Bool.false_eq_true,if_false,ne_eq,not_true_eq_false,decide_false,gt_iff_lt]
  split
  · rfl
  · split<;>rfl
theorem rdd (x:List Int) (i:Nat) (h:i<x.length):rd x (i:Int)=x[i]:=by
  unfold rd
  rw [Int.toNat_natCast,List.getD_eq_getElem?_getD,List.getElem?_eq_getElem h];rfl
theorem slcmp_l0 (x y:List Int) (hl:x.length<100000) (k:Nat):∀ (m i:Nat),i+m=x.length→slices_Compare_rune_rune.l0 (k+m+1) x y x (x.length:Int) (i:Int)=some (cmpI (x.drop i) (y.drop i))
  | 0,i,hi=>by
    have h1:¬ ((i:Int)<(x.length:Int)):=by omega
    rw [slices_Compare_rune_rune.l0,if_neg h1,List.drop_of_length_le (show x.length≤i by omega)]
    by_cases h:x.length<y.length
    · rw [if_pos (show (x.length:Int)<(y.length:Int) by omega),List.drop_eq_getElem_cons (show i<y.length by omega)];rfl
    · rw [if_neg (show ¬ (x.length:Int)<(y.length:Int) by omega),List.drop_of_length_le (show y.length≤i by omega)];rfl
  | m+1,i,hi=>by
    have hx:i<x.length:=by omega
    have h1:(i:Int)<(x.length:Int):=by omega
    have w1:wrap64 ((i:Int)+1)=((i+1:Nat):Int):=w1n2 i (by omega)
    have ih:=slcmp_l0 x y hl k m (i+1) (by omega)
    rw [show k+(m+1)+1=(k+m+1)+1 from rfl,slices_Compare_rune_rune.l0,if_pos h1,if_pos (Int.natCast_nonneg i),if_pos h1,List.drop_eq_getElem_cons hx]
    by_cases hy:i<y.length
    · have h2:(i:Int)<(y.length:Int):=by omega
      have h3:¬ ((i:Int)≥(y.length:Int)):=by omega
      rw [if_neg h3,if_pos h2,rdd x i hx,rdd y i hy,cmp_rune,Option.bind_some,w1,ih,List.drop_eq_getElem_cons hy,cmpI]
      by_cases c1:x[i]<y[i]
      · rw [if_pos c1,if_pos c1,if_neg (by decide)]
      rw [if_neg c1,if_neg c1]
      by_cases c2:y[i]<x[i]
      · rw [if_pos c2,if_pos c2,if_neg (by decide)]
      · rw [if_neg c2,if_neg c2,if_pos rfl]
    · have h3:(i:Int)≥(y.length:Int):=by omega
      rw [if_pos h3,List.drop_of_length_le (show y.length≤i by omega)];rfl
theorem slcmp_q (x y:List Int) (hl:x.length<100000) (k:Nat) (hk:x.length+1≤k):slices_Compare_rune_rune.f k x y=some (cmpI x y):=by
  have h:=slcmp_l0 x y hl (k-x.length-1) x.length 0 (by omega)
  rw [show k-x.length-1+x.length+1=k by omega] at h
  unfold slices_Compare_rune_rune.f
  exact h
theorem runesI_go (s:ByteArray):∀ (cs:List Nat) (b pos:Nat),(∀ c∈cs,okC c)→pos≤s.size→s.data.toList.drop pos=encL cs→s.size-pos≤b→runesI s b pos=ints cs
  | [],0,pos,ho,hp,hd,hf=>rfl
  | c :: cs,0,pos,ho,hp,hd,hf=>by
    have hl:=congrArg List.length hd
    have hp1:=enc_pos c
    rw [List.length_drop,← size_len,encL,List.length_append] at hl
    omega
  | [],b+1,pos,ho,hp,hd,hf=>by
    have hl:=congrArg List.length hd
    rw [List.length_drop,← size_len] at hl
    have e:(encL []).length=0:=rfl
    rw [runesI,if_neg (by omega)];rfl
  | c :: cs,b+1,pos,ho,hp,hd,hf=>by
    have hl:=congrArg List.length hd
    have hp1:=enc_pos c
    rw [List.length_drop,← size_len,encL,List.length_append] at hl
    have hlt:pos<s.size:=by omega
    have hdec:dec (s.data.toList.drop pos)=(c,(encodeRune (c:Int)).length):=by rw [hd,encL];exact dec_encode c (ho c (List.mem_cons_self ..)) _
    have e:Utf8.decode s pos=(c,(encodeRune (c:Int)).length):=by
      rw [decode_dec s pos hlt (by rw [hdec];show (encodeRune (c:Int)).length≠0;omega),hdec]
    have ih:=runesI_go s cs b (pos+(encodeRune (c:Int)).length) (fun x hx=>ho x (List.mem_cons_of_mem _ hx)) (by omega) (by rw [← List.drop_drop,hd,encL,List.drop_left]) (by omega)
    rw [runesI,if_pos hlt,e]
    dsimp only
    rw [ih];rfl
theorem fold_ok (s:ByteArray) (hv:validD s.data.toList=true):∀ c∈(runesOf s.data.toList).map smallN,okC c:=by
  obtain ⟨e1,o1⟩:=valid_runesL _ hv
  intro c hc
  obtain ⟨x,hx,rfl⟩:=List.mem_map.1 hc
  exact (small_ok x (o1 x hx)).1
theorem fold_list (s:ByteArray) (hv:validD s.data.toList=true):(foldB s).data.toList=encL ((runesOf s.data.toList).map smallN):=by
  unfold foldB
  rw [if_pos hv]
theorem fold_valid (s:ByteArray) (hv:validD s.data.toList=true):validD (foldB s).data.toList=true∧runesOf (foldB s).data.toList=(runesOf s.data.toList).map smallN:=by
  have h:=runes_enc _ _ (fold_ok s hv) (Nat.le_refl _)
  rw [fold_list s hv,validD_validF]
  exact ⟨h.2,h.1⟩
theorem encL_four:∀ cs:List Nat,(encL cs).length≤4 * cs.length
  | []=>Nat.le_refl _
  | c :: cs=>by
    have h1:=encL_four cs
    have h4:(encodeRune (c:Int)).length≤4:=by unfold encodeRune;rw [List.length_map];exact (encodeRuneZ_length (c:Int)).2
    rw [encL,List.length_append,List.length_cons];omega
theorem fold_size (s:ByteArray) (hv:validD s.data.toList=true):(foldB s).size≤4 * s.size∧(runesOf s.data.toList).length≤s.size:=by
  obtain ⟨e1,o1⟩:=valid_runesL _ hv
  have hlen:(runesOf s.data.toList).length≤s.size:=by
    have:=encL_len2 (runesOf s.data.toList)
    rw [e1,← size_len] at this;exact this
  have h:=encL_four ((runesOf s.data.toList).map smallN)
  rw [← fold_list s hv,← size_len,List.length_map] at h
  exact ⟨by omega,hlen⟩
def cmpB (a b:ByteArray):Int:=cmpI (ints ((runesOf a.data.toList).map smallN)) (ints ((runesOf b.data.toList).map smallN))
theorem runesI_fold (s:ByteArray) (hv:validD s.data.toList=true):runesI (foldB s) (foldB s).size 0=ints ((runesOf s.data.toList).map smallN):=
  runesI_go (foldB s) _ _ 0 (fold_ok s hv) (Nat.zero_le _) (fold_list s hv) (by omega)
theorem compare_q (a b:ByteArray) (ha:a.size<20000) (hb:b.size<20000) (va:validD a.data.toList=true) (vb:validD b.data.toList=true) (k:Nat) (hk:a.size+1≤k):name_Compare.f k a b=some (cmpB a b):=by
  obtain ⟨a1,a2⟩:=fold_size a va
  obtain ⟨b1,b2⟩:=fold_size b vb
  unfold name_Compare.f cmpB
  rw [fold_q a (by omega),Option.bind_some,fold_q b (by omega),Option.bind_some,if_pos (show (foldB a).size≤1099511627776 by omega),if_pos (show (foldB b).size≤1099511627776 by omega),if_pos (fold_valid a va).1,if_pos (fold_valid b vb).1,runesI_fold a va,runesI_fold b vb]
  have hl:(ints ((runesOf a.data.toList).map smallN)).length=(runesOf a.data.toList).length:=by unfold ints;rw [List.length_map,List.length_map]
  exact slcmp_q _ _ (by omega) k (by omega)
theorem compare_r (a b:ByteArray) (ha:a.size<20000) (hb:b.size<20000) (va:validD a.data.toList=true) (vb:validD b.data.toList=true) (k:Nat) (hka:4 * a.size+20≤k) (hkb:4 * b.size+20≤k):R02_Compare.f k a b=some (cmpB a b):=by
  obtain ⟨a1,a2⟩:=fold_size a va
  obtain ⟨b1,b2⟩:=fold_size b vb
  unfold R02_Compare.f cmpB
  rw [fold_r a (by omega) k (by omega),Option.bind_some,fold_r b (by omega) k (by omega),Option.bind_some,valid_ev _ (by omega) k (by omega),Option.bind_some,valid_ev _ (by omega) k (by omega),Option.bind_some,if_pos (fold_valid a va).1,if_pos (fold_valid b vb).1,runes_ev _ (by omega) k (by omega),Option.bind_some,runes_ev _ (by omega) k (by omega),Option.bind_some,(fold_valid a va).2,(fold_valid b vb).2]
def letB (c:Int):Bool:=(65≤c && c≤90) || (97≤c && c≤122) || (192≤c && c≤591 && c != 215 && c != 247) || (913≤c && c≤937 && c != 930) || (945≤c && c≤969) || (1040≤c && c≤1103) || (19968≤c && c≤40959)
theorem letter_q (c:Int) (k:Nat):name_Letter.f (k+1) c=some (letB c):=by
  by_cases e1:c=215
  · subst e1;rfl
  by_cases e2:c=247
  · subst e2;rfl
  by_cases e3:c=930
  · subst e3;rfl
  have n1:(c=215)=False:=eq_false e1
  have m1:(c != 215)=true:=bne_iff_ne.2 e1
  have m2:(c != 247)=true:=bne_iff_ne.2 e2
  have m3:(c != 930)=true:=bne_iff_ne.2 e3
  have cs:c<65∨(65≤c∧c<91)∨(91≤c∧c<97)∨(97≤c∧c<123)∨(123≤c∧c<192)∨(192≤c∧c<592)∨(592≤c∧c<913)∨(913≤c∧c<938)∨(938≤c∧c<945)∨(945≤c∧c<970)∨(970≤c∧c<1040)∨(1040≤c∧c<1104)∨(1104≤c∧c<19968)∨(19968≤c∧c<40960)∨40960≤c:=by omega
  rcases cs with h|h|h|h|h|h|h|h|h|h|h|h|h|h|h
  all_goals (
    (first|have l65:(65≤c)=True:=eq_true (by omega)|have l65:(65≤c)=False:=eq_false (by omega));(first|have u90:(c≤90)=True:=eq_true (by omega)|have u90:(c≤90)=False:=eq_false (by omega));
    (first|have l97:(97≤c)=True:=eq_true (by omega)|have l97:(97≤c)=False:=eq_false (by omega));(first|have u122:(c≤122)=True:=eq_true (by omega)|have u122:(c≤122)=False:=eq_false (by omega));
    (first|have l192:(192≤c)=True:=eq_true (by omega)|have l192:(192≤c)=False:=eq_false (by omega));(first|have u591:(c≤591)=True:=eq_true (by omega)|have u591:(c≤591)=False:=eq_false (by omega));
    (first|have l913:(913≤c)=True:=eq_true (by omega)|have l913:(913≤c)=False:=eq_false (by omega));(first|have u937:(c≤937)=True:=eq_true (by omega)|have u937:(c≤937)=False:=eq_false (by omega));
    (first|have l945:(945≤c)=True:=eq_true (by omega)|have l945:(945≤c)=False:=eq_false (by omega));(first|have u969:(c≤969)=True:=eq_true (by omega)|have u969:(c≤969)=False:=eq_false (by omega));
    (first|have l1040:(1040≤c)=True:=eq_true (by omega)|have l1040:(1040≤c)=False:=eq_false (by omega));(first|have u1103:(c≤1103)=True:=eq_true (by omega)|have u1103:(c≤1103)=False:=eq_false (by omega));
    (first|have l19968:(19968≤c)=True:=eq_true (by omega)|have l19968:(19968≤c)=False:=eq_false (by omega));(first|have u40959:(c≤40959)=True:=eq_true (by omega)|have u40959:(c≤40959)=False:=eq_false (by omega))
    )
  all_goals simp only [name_Letter.f,name_Letter.j0,name_between.f,letB,ge_iff_le,n1,m1,m2,m3,l65,u90,l97,u122,l192,u591,l913,u937,l945,u969,l1040,u1103,l19968,u40959,Option.bind_some,if_true,if_false,decide_true,decide_false,Bool.and_true,Bool.and_false,Bool.true_and,Bool.false_and,Bool.or_true,Bool.or_false,Bool.true_or,Bool.false_or,Bool.false_eq_true]
theorem letter_r (c:Int) (k:Nat):R02_Letter.f (k+2) c=some (letB c):=by
  by_cases e1:c=215
  · subst e1;rfl
  by_cases e2:c=247
  · subst e2;rfl
  by_cases e3:c=930
  · subst e3;rfl
  have n1:(c=215)=False:=eq_false e1
  have m1:(c != 215)=true:=bne_iff_ne.2 e1
  have m2:(c != 247)=true:=bne_iff_ne.2 e2
  have m3:(c != 930)=true:=bne_iff_ne.2 e3
  have cs:c<65∨(65≤c∧c<91)∨(91≤c∧c<97)∨(97≤c∧c<123)∨(123≤c∧c<192)∨(192≤c∧c<592)∨(592≤c∧c<913)∨(913≤c∧c<938)∨(938≤c∧c<945)∨(945≤c∧c<970)∨(970≤c∧c<1040)∨(1040≤c∧c<1104)∨(1104≤c∧c<19968)∨(19968≤c∧c<40960)∨40960≤c:=by omega
  rcases cs with h|h|h|h|h|h|h|h|h|h|h|h|h|h|h
  all_goals (
    (first|have l65:(65≤c)=True:=eq_true (by omega)|have l65:(65≤c)=False:=eq_false (by omega));(first|have u90:(c≤90)=True:=eq_true (by omega)|have u90:(c≤90)=False:=eq_false (by omega));
    (first|have l97:(97≤c)=True:=eq_true (by omega)|have l97:(97≤c)=False:=eq_false (by omega));(first|have u122:(c≤122)=True:=eq_true (by omega)|have u122:(c≤122)=False:=eq_false (by omega));
    (first|have l192:(192≤c)=True:=eq_true (by omega)|have l192:(192≤c)=False:=eq_false (by omega));(first|have u591:(c≤591)=True:=eq_true (by omega)|have u591:(c≤591)=False:=eq_false (by omega));
    (first|have l913:(913≤c)=True:=eq_true (by omega)|have l913:(913≤c)=False:=eq_false (by omega));(first|have u937:(c≤937)=True:=eq_true (by omega)|have u937:(c≤937)=False:=eq_false (by omega));
    (first|have l945:(945≤c)=True:=eq_true (by omega)|have l945:(945≤c)=False:=eq_false (by omega));(first|have u969:(c≤969)=True:=eq_true (by omega)|have u969:(c≤969)=False:=eq_false (by omega));
    (first|have l1040:(1040≤c)=True:=eq_true (by omega)|have l1040:(1040≤c)=False:=eq_false (by omega));(first|have u1103:(c≤1103)=True:=eq_true (by omega)|have u1103:(c≤1103)=False:=eq_false (by omega));
    (first|have l19968:(19968≤c)=True:=eq_true (by omega)|have l19968:(19968≤c)=False:=eq_false (by omega));(first|have u40959:(c≤40959)=True:=eq_true (by omega)|have u40959:(c≤40959)=False:=eq_false (by omega))
    )
  all_goals simp only [R02_Letter.f,R02_Letter.j0,R02_Letter.j1,letB,ge_iff_le,n1,m1,m2,m3,l65,u90,l97,u122,l192,u591,l913,u937,l945,u969,l1040,u1103,l19968,u40959,Option.bind_some,if_true,if_false,decide_true,decide_false,Bool.and_true,Bool.and_false,Bool.true_and,Bool.false_and,Bool.or_true,Bool.or_false,Bool.true_or,Bool.false_or,Bool.false_eq_true]
def formG:Bool→List Nat→Bool
  | first,[]=>!first
  | first,c :: cs=>if c=46 then (if first=true then false else formG true cs)
    else if letB (c:Int)=true∨c=95 then formG false cs
    else if first=false∧((48≤c∧c≤57)∨c=45) then formG false cs else false
def partG:Bool→List Nat→Bool
  | first,[]=>!first
  | first,c :: cs=>if letB (c:Int)=true∨c=95 then partG false cs
    else if first=false∧((48≤c∧c≤57)∨c=45) then partG false cs else false
def cutP:List Nat→List Nat × List (List Nat)
  | []=>([],[])
  | c :: cs=>if c=46 then ([],(cutP cs).1 :: (cutP cs).2) else (c :: (cutP cs).1,(cutP cs).2)
theorem form_cut:∀ (first:Bool) (cs:List Nat),formG first cs=(partG first (cutP cs).1 && (cutP cs).2.all (partG true))
  | first,[]=>by simp [formG,partG,cutP]
  | first,c :: cs=>by
    rw [formG,cutP]
    by_cases h:c=46
    · rw [if_pos h,if_pos h,partG]
      cases first with
      | true=>simp
      | false=>
        rw [if_neg (by decide),form_cut true cs]
        simp
    · rw [if_neg h,if_neg h,partG]
      by_cases h1:letB (c:Int)=true∨c=95
      · rw [if_pos h1,if_pos h1,form_cut false cs]
      · rw [if_neg h1,if_neg h1]
        by_cases h2:first=false∧((48≤c∧c≤57)∨c=45)
        · rw [if_pos h2,if_pos h2,form_cut false cs]
        · rw [if_neg h2,if_neg h2];rfl
theorem cut_len:∀ cs:List Nat,(cutP cs).2.length=cs.count 46
  | []=>rfl
  | c :: cs=>by
    rw [cutP]
    by_cases h:c=46
    · rw [if_pos h,h,List.count_cons_self,List.length_cons,cut_len cs]
    · rw [if_neg h,List.count_cons_of_ne (by simpa using h),cut_len cs]
theorem nameDigit_q (c:Int):name_digit.f c=some (decide (48≤c) && decide (c≤57)):=by
  unfold name_digit.f name_between.f
  by_cases h:c≥48
  · rw [if_pos h,Option.bind_some,decide_eq_true (show 48≤c by omega)];rfl
  · rw [if_neg h,Option.bind_some,decide_eq_false (show ¬ 48≤c by omega)];rfl
theorem form_st (k:Nat) (first:Bool) (c:Nat):∃ t,name_formed.st (k+1) first (c:Int)=some t ∧
    ((t=0∧∀ cs,formG first (c :: cs)=false)∨(t=1∧∀ cs,formG first (c :: cs)=formG false cs)∨(t=2∧∀ cs,formG first (c :: cs)=formG true cs)):=by
  unfold name_formed.st
  by_cases h46:c=46
  · subst h46
    rw [if_pos (by decide)]
    cases first with
    | true=>exact ⟨0,rfl,.inl ⟨rfl,fun cs=>by rw [formG];rfl⟩⟩
    | false=>exact ⟨2,rfl,.inr (.inr ⟨rfl,fun cs=>by rw [formG];rfl⟩)⟩
  rw [if_neg (by omega),letter_q (c:Int) k,Option.bind_some]
  by_cases hl:letB (c:Int)=true
  · rw [if_pos hl]
    exact ⟨1,rfl,.inr (.inl ⟨rfl,fun cs=>by rw [formG,if_neg h46,if_pos (.inl hl)]⟩)⟩
  rw [if_neg hl]
  by_cases h95:c=95
  · rw [if_pos (by omega)]
    exact ⟨1,rfl,.inr (.inl ⟨rfl,fun cs=>by rw [formG,if_neg h46,if_pos (.inr h95)]⟩)⟩
  have hno:¬ (letB (c:Int)=true∨c=95):=fun h=>h.elim hl h95
  rw [if_neg (by omega)]
  cases first with
  | true=>
    exact ⟨0,rfl,.inl ⟨rfl,fun cs=>by rw [formG,if_neg h46,if_neg hno,if_neg (fun h=>by cases h.1)]⟩⟩
  | false=>
    rw [if_neg (by decide),nameDigit_q,Option.bind_some]
    by_cases hd:48≤c∧c≤57
    · rw [if_pos (by rw [decide_eq_true (by omega),decide_eq_true (by omega)];rfl)]
      exact ⟨1,rfl,.inr (.inl ⟨rfl,fun cs=>by rw [formG,if_neg h46,if_neg hno,if_pos ⟨rfl,.inl hd⟩]⟩)⟩
    have hnd:¬ ((decide (48≤(c:Int)) && decide ((c:Int)≤57))=true):=by
      rw [Bool.and_eq_true,decide_eq_true_eq,decide_eq_true_eq];omega
    rw [if_neg hnd]
    by_cases h45:c=45
    · rw [if_pos (by omega)]
      exact ⟨1,rfl,.inr (.inl ⟨rfl,fun cs=>by rw [formG,if_neg h46,if_neg hno,if_pos ⟨rfl,.inr h45⟩]⟩)⟩
    · rw [if_neg (by omega)]
      exact ⟨0,rfl,.inl ⟨rfl,fun cs=>by rw [formG,if_neg h46,if_neg hno,if_neg (fun h=>h.2.elim hd h45)]⟩⟩
theorem form_go (s:ByteArray) (k:Nat):∀ (cs:List Nat) (f pos:Nat) (first:Bool),(∀ c∈cs,okC c)→pos≤s.size→s.data.toList.drop pos=encL cs→s.size-pos<f→name_formed.go (k+1) s f pos first=some (formG first cs)
  | cs,0,pos,first,ho,hp,hd,hf=>by omega
  | [],f+1,pos,first,ho,hp,hd,hf=>by
    have hl:=congrArg List.length hd
    rw [List.length_drop,← size_len] at hl
    have e:(encL []).length=0:=rfl
    rw [name_formed.go,if_neg (by omega)];rfl
  | c :: cs,f+1,pos,first,ho,hp,hd,hf=>by
    have hl:=congrArg List.length hd
    have hp1:=enc_pos c
    rw [List.length_drop,← size_len,encL,List.length_append] at hl
    have hlt:pos<s.size:=by omega
    have hdec:dec (s.data.toList.drop pos)=(c,(encodeRune (c:Int)).length):=by rw [hd,encL];exact dec_encode c (ho c (List.mem_cons_self ..)) _
    have e:Utf8.decode s pos=(c,(encodeRune (c:Int)).length):=by
      rw [decode_dec s pos hlt (by rw [hdec];show (encodeRune (c:Int)).length≠0;omega),hdec]
    obtain ⟨t,t1,t2⟩:=form_st k first c
    have ih:=fun b=>form_go s k cs f (pos+(encodeRune (c:Int)).length) b (fun x hx=>ho x (List.mem_cons_of_mem _ hx)) (by omega) (by rw [← List.drop_drop,hd,encL,List.drop_left]) (by omega)
    rw [name_formed.go,if_pos hlt,e]
    dsimp only
    rw [t1,Option.bind_some]
    rcases t2 with ⟨rfl,h⟩|⟨rfl,h⟩|⟨rfl,h⟩
    · rw [if_pos rfl,h]
    · rw [if_neg (by decide),h];exact ih false
    · rw [if_neg (by decide),h];exact ih true
def formedB (s:ByteArray):Bool:=decide (s.size≠0) && (validD s.data.toList && formG true (runesOf s.data.toList))
theorem formed_q (s:ByteArray) (hs:s.size<1000000) (k:Nat):name_formed.f (k+1) s=some (formedB s):=by
  unfold name_formed.f formedB
  rw [if_pos (by omega)]
  by_cases hz:s.size=0
  · rw [if_pos ((toList_nil s).2 hz),decide_eq_false (by omega)];rfl
  rw [if_neg (fun h=>hz ((toList_nil s).1 h)),decide_eq_true hz]
  by_cases hv:validD s.data.toList=true
  · obtain ⟨e1,o1⟩:=valid_runesL _ hv
    rw [if_pos hv,hv,form_go s k _ (s.size+1) 0 true o1 (Nat.zero_le _) e1.symm (by omega)];rfl
  · rw [if_neg hv,Bool.eq_false_iff.2 hv];rfl
theorem part_l0 (cs:List Nat) (hl:cs.length<100000) (k:Nat):∀ (m i:Nat),i+m=cs.length→R02_part.l0 (k+m+3) (ints cs) (i:Int)=some (partG (decide (i=0)) (cs.drop i))
  | 0,i,hi=>by
    have hil:(ints cs).length=cs.length:=by unfold ints;rw [List.length_map]
    rw [R02_part.l0,if_neg (by omega),List.drop_of_length_le (by omega),partG]
    by_cases h0:i=0
    · rw [decide_eq_true h0,decide_eq_false (by omega)];rfl
    · rw [decide_eq_false h0,decide_eq_true (by omega)];rfl
  | m+1,i,hi=>by
    have hil:(ints cs).length=cs.length:=by unfold ints;rw [List.length_map]
    have hlt:i<cs.length:=by omega
    have hr:rd (ints cs) (i:Int)=(cs[i]:Int):=by
      unfold rd ints
      rw [Int.toNat_natCast,List.getD_eq_getElem?_getD,List.getElem?_map,List.getElem?_eq_getElem hlt];rfl
    have ih:=part_l0 cs hl k m (i+1) (by omega)
    rw [decide_eq_false (show ¬ i+1=0 by omega)] at ih
    have w1:wrap64 ((i:Int)+1)=((i+1:Nat):Int):=by rw [w64 (by omega) (by omega)];omega
    rw [List.drop_eq_getElem_cons hlt,partG,show k+(m+1)+3=(k+m+3)+1 by omega,R02_part.l0,if_pos (by omega),if_pos (by omega),hr,show k+m+3=(k+m+1)+2 by omega,letter_r,Option.bind_some,w1]
    generalize cs[i]=c
    by_cases hlet:letB (c:Int)=true
    · rw [if_pos hlet,if_pos (.inl hlet)];exact ih
    rw [if_neg hlet]
    by_cases h95:c=95
    · rw [if_pos (show (c:Int)=95 by omega),if_pos (show letB (c:Int)=true∨c=95 from .inr h95)];exact ih
    rw [if_neg (show ¬ (c:Int)=95 by omega),if_neg (show ¬ (letB (c:Int)=true∨c=95) from fun h=>h.elim hlet h95)]
    clear hlet
    by_cases h0:i=0
    · rw [if_pos (show (i:Int)=0 by omega),decide_eq_true h0,if_neg (fun h=>by cases h.1)]
    rw [if_neg (show ¬ (i:Int)=0 by omega),decide_eq_false h0]
    by_cases h45:c=45
    · rw [if_pos (show (c:Int)=45 by omega),if_pos ⟨rfl,.inr h45⟩];exact ih
    rw [if_neg (show ¬ (c:Int)=45 by omega)]
    by_cases h48:c<48
    · rw [if_pos (show (c:Int)<48 by omega),if_neg (fun h=>by have:=h.2;omega)]
    rw [if_neg (show ¬ (c:Int)<48 by omega)]
    by_cases h57:c>57
    · rw [if_pos (show (c:Int)>57 by omega),if_neg (fun h=>by have:=h.2;omega)]
    · rw [if_neg (show ¬ (c:Int)>57 by omega),if_pos ⟨rfl,.inl (by omega)⟩];exact ih
theorem part_q (cs:List Nat) (hl:cs.length<100000) (k:Nat) (hk:cs.length+3≤k):R02_part.f k (ints cs)=some (partG true cs):=by
  have h:=part_l0 cs hl (k-cs.length-3) cs.length 0 (by omega)
  rw [show k-cs.length-3+cs.length+3=k by omega] at h
  unfold R02_part.f
  exact h
theorem split_l0 (cs:List Nat) (hl:cs.length<100000) (k:Nat):∀ (m i:Nat) (acc:List (List Int)) (cur:List Int),i+m=cs.length→acc.length≤i→cur.length≤i →
    R02_Split.l0 (k+m+1) (ints cs) acc cur (i:Int)=some (acc++(cur++ints (cutP (cs.drop i)).1) :: (cutP (cs.drop i)).2.map ints)
  | 0,i,acc,cur,hi,ha,hc=>by
    have hil:(ints cs).length=cs.length:=by unfold ints;rw [List.length_map]
    rw [R02_Split.l0,if_neg (by omega),if_pos (by omega),List.drop_of_length_le (by omega),cutP]
    show some (acc++[cur])=some (acc++[cur++[]])
    rw [List.append_nil]
  | m+1,i,acc,cur,hi,ha,hc=>by
    have hil:(ints cs).length=cs.length:=by unfold ints;rw [List.length_map]
    have hlt:i<cs.length:=by omega
    have hr:rd (ints cs) (i:Int)=(cs[i]:Int):=by
      unfold rd ints
      rw [Int.toNat_natCast,List.getD_eq_getElem?_getD,List.getElem?_map,List.getElem?_eq_getElem hlt];rfl
    have w1:wrap64 ((i:Int)+1)=((i+1:Nat):Int):=by rw [w64 (by omega) (by omega)];omega
    rw [List.drop_eq_getElem_cons hlt,cutP,show k+(m+1)+1=(k+m+1)+1 by omega,R02_Split.l0,if_pos (by omega),if_pos (by omega),hr,w1]
    generalize cs[i]=c
    by_cases h:c=46
    · rw [if_pos (by omega),if_pos h,if_pos (by omega),split_l0 cs hl k m (i+1) (acc++[cur]) [] (by omega) (by rw [List.length_append];show acc.length+1≤_;omega) (by simp),List.append_assoc]
      show some (acc++(cur :: _))=some (acc++((cur++ints []) :: _))
      rw [show ints []=[] from rfl,List.append_nil];rfl
    · rw [if_neg (by omega),if_neg h,if_pos (by omega),split_l0 cs hl k m (i+1) acc (cur++[(c:Int)]) (by omega) (by omega) (by rw [List.length_append];show cur.length+1≤_;omega),List.append_assoc]
      rfl
theorem split_q (cs:List Nat) (hl:cs.length<100000) (k:Nat) (hk:cs.length+1≤k):R02_Split.f k (ints cs)=some ((ints (cutP cs).1 :: (cutP cs).2.map ints)):=by
  have h:=split_l0 cs hl (k-cs.length-1) cs.length 0 [] [] (by omega) (by simp) (by simp)
  rw [show k-cs.length-1+cs.length+1=k by omega] at h
  unfold R02_Split.f
  exact h
theorem enc_high (c:Nat) (h:okC c) (hc:128≤c):∀ b∈encodeRune (c:Int),128≤b.toNat:=by
  unfold okC at h
  unfold encodeRune
  intro b hb
  obtain ⟨x,hx,rfl⟩:=List.mem_map.1 hb
  have key:∃ n:Nat,x=(n:Int)∧128≤n∧n<256:=by
    by_cases c2:c<2048
    · rw [encodeRuneZ_two (by omega) (by omega)] at hx
      rcases List.mem_cons.1 hx with rfl|hx
      · exact ⟨192+c / 64,by omega,by omega,by omega⟩
      rcases List.mem_cons.1 hx with rfl|hx
      · exact ⟨128+c % 64,by omega,by omega,by omega⟩
      · cases hx
    by_cases c3:c<65536
    · rw [encodeRuneZ_three (by omega)] at hx
      rcases List.mem_cons.1 hx with rfl|hx
      · exact ⟨224+c / 4096,by omega,by omega,by omega⟩
      rcases List.mem_cons.1 hx with rfl|hx
      · exact ⟨128+c / 64 % 64,by omega,by omega,by omega⟩
      rcases List.mem_cons.1 hx with rfl|hx
      · exact ⟨128+c % 64,by omega,by omega,by omega⟩
      · cases hx
    · rw [encodeRuneZ_four (by omega) (by omega)] at hx
      rcases List.mem_cons.1 hx with rfl|hx
      · exact ⟨240+c / 262144,by omega,by omega,by omega⟩
      rcases List.mem_cons.1 hx with rfl|hx
      · exact ⟨128+c / 4096 % 64,by omega,by omega,by omega⟩
      rcases List.mem_cons.1 hx with rfl|hx
      · exact ⟨128+c / 64 % 64,by omega,by omega,by omega⟩
      rcases List.mem_cons.1 hx with rfl|hx
      · exact ⟨128+c % 64,by omega,by omega,by omega⟩
      · cases hx
  obtain ⟨n,rfl,h1,h2⟩:=key
  rw [Int.toNat_natCast,u8n n h2]
  exact h1
theorem count_enc (k:Nat) (hk:k<128):∀ cs:List Nat,(∀ c∈cs,okC c)→(encL cs).count k.toUInt8=cs.count k
  | [],_=>rfl
  | c :: cs,ho=>by
    rw [encL,List.count_append,count_enc k hk cs (fun x hx=>ho x (List.mem_cons_of_mem _ hx)),List.count_cons]
    have e:(encodeRune (c:Int)).count k.toUInt8=if (c == k)=true then 1 else 0:=by
      by_cases h1:c<128
      · unfold encodeRune
        rw [encodeRuneZ_one (by omega) (by omega)]
        show [((c:Int).toNat.toUInt8)].count k.toUInt8=_
        rw [Int.toNat_natCast,List.count_cons,List.count_nil,Nat.zero_add]
        by_cases hck:c=k
        · rw [hck,if_pos (beq_self_eq_true _),if_pos (beq_self_eq_true _)]
        · rw [if_neg (fun h=>hck ?_),if_neg (fun h=>hck (eq_of_beq h))]
          have h2:=congrArg UInt8.toNat (eq_of_beq h)
          rw [u8n c (by omega),u8n k (by omega)] at h2
          exact h2
      · rw [if_neg (fun h=>by have:=eq_of_beq h;omega),List.count_eq_zero]
        intro hm
        have:=enc_high c (ho c List.mem_cons_self) (by omega) _ hm
        rw [u8n k (by omega)] at this
        omega
    rw [e];omega
theorem encL_len:∀ cs:List Nat,cs.length≤(encL cs).length
  | []=>Nat.le_refl _
  | c :: cs=>by
    have:=encL_len cs;have:=enc_pos c
    rw [encL,List.length_append,List.length_cons];omega
theorem cut_small:∀ cs:List Nat,(cutP cs).1.length≤cs.length∧∀ p∈(cutP cs).2,p.length≤cs.length
  | []=>⟨Nat.le_refl _,fun p h=>by cases h⟩
  | c :: cs=>by
    obtain ⟨i1,i2⟩:=cut_small cs
    rw [cutP,List.length_cons]
    by_cases h:c=46
    · rw [if_pos h]
      refine ⟨Nat.zero_le _,fun p hp=>?_⟩
      rcases List.mem_cons.1 hp with rfl|hp
      · omega
      · have:=i2 p hp;omega
    · rw [if_neg h]
      refine ⟨by show (c :: (cutP cs).1).length≤_;rw [List.length_cons];omega,fun p hp=>?_⟩
      have:=i2 p hp;omega
def checkN (s:ByteArray):Int:=if formedB s=true then (if (runesOf s.data.toList).length>40 then 2 else if (runesOf s.data.toList).count 46≥5 then 2 else 0) else 3
theorem formed_valid (s:ByteArray) (h:formedB s=true):s.size≠0∧validD s.data.toList=true∧formG true (runesOf s.data.toList)=true:=by
  unfold formedB at h
  rw [Bool.and_eq_true,Bool.and_eq_true] at h
  exact ⟨of_decide_eq_true h.1,h.2.1,h.2.2⟩
theorem check_name (s:ByteArray) (hs:s.size<1000000) (k:Nat):name_Check.f (k+1) s=some (checkN s):=by
  unfold name_Check.f checkN
  rw [formed_q s hs,Option.bind_some]
  by_cases hf:formedB s=true
  · obtain ⟨h0,hv,hg⟩:=formed_valid s hf
    rw [if_pos hf,if_pos hf]
    unfold utf8_RuneCountInString.f strings_Count.f
    rw [if_pos (show s.size<9223372036854775807 by omega),Option.bind_some,count_ev s hv]
    obtain ⟨e1,o1⟩:=valid_runesL _ hv
    have hc:Lib.countByte s.data.toList (([46]:List UInt8).getD 0 0)=(runesOf s.data.toList).count 46:=by
      have:=count_enc 46 (by omega) _ o1
      rw [e1] at this
      exact this
    by_cases h1:(runesOf s.data.toList).length>40
    · rw [if_pos (show ((runesOf s.data.toList).length:Int)>40 by omega),if_pos h1]
    rw [if_neg (show ¬ ((runesOf s.data.toList).length:Int)>40 by omega),if_neg h1]
    show (some ((Lib.countByte s.data.toList (([46]:List UInt8).getD 0 0):Nat):Int)).bind _=_
    rw [hc,Option.bind_some]
    by_cases h2:(runesOf s.data.toList).count 46≥5
    · rw [if_pos (show (((runesOf s.data.toList).count 46:Nat):Int)≥5 by omega),if_pos h2]
    · rw [if_neg (show ¬ (((runesOf s.data.toList).count 46:Nat):Int)≥5 by omega),if_neg h2]
  · rw [if_neg hf,if_neg hf]
theorem check_l0 (cs:List Int) (ps:List (List Nat)) (hl:ps.length<1000000) (N:Nat) (hN:N<100000) (hp:∀ p∈ps,p.length≤N) (k:Nat) (hk:N+3≤k):∀ (m i:Nat),i+m=ps.length →
    R02_Check.l0 (k+m+1) cs (ps.map ints) (i:Int)=some (if (ps.drop i).all (partG true)=true then (if (cs.length:Int)>40 then 2 else if (ps.length:Int)>5 then 2 else 0) else 3)
  | 0,i,hi=>by
    have hil:(ps.map ints).length=ps.length:=List.length_map ..
    rw [R02_Check.l0,if_neg (by omega),List.drop_of_length_le (by omega),List.all_nil,if_pos rfl,hil]
    by_cases h1:(cs.length:Int)>40
    · rw [if_pos h1,if_pos h1]
    rw [if_neg h1,if_neg h1]
    by_cases h2:(ps.length:Int)>5
    · rw [if_pos h2,if_pos h2]
    · rw [if_neg h2,if_neg h2]
  | m+1,i,hi=>by
    have hil:(ps.map ints).length=ps.length:=List.length_map ..
    have hlt:i<ps.length:=by omega
    have hr:rd_L19 (ps.map ints) (i:Int)=ints ps[i]:=by
      unfold rd_L19
      rw [Int.toNat_natCast,List.getD_eq_getElem?_getD,List.getElem?_map,List.getElem?_eq_getElem hlt];rfl
    have ih:=check_l0 cs ps hl N hN hp k hk m (i+1) (by omega)
    have w1:wrap64 ((i:Int)+1)=((i+1:Nat):Int):=by rw [w64 (by omega) (by omega)];omega
    have hpi:=hp ps[i] (List.getElem_mem _)
    rw [show k+(m+1)+1=(k+m+1)+1 by omega,R02_Check.l0,if_pos (by omega),if_pos (by omega),hr,part_q ps[i] (by omega) (k+m+1) (by omega),Option.bind_some,w1,List.drop_eq_getElem_cons hlt,List.all_cons]
    by_cases hg:partG true ps[i]=true
    · rw [if_pos hg,hg,Bool.true_and];exact ih
    · rw [if_neg hg,Bool.eq_false_iff.2 hg,Bool.false_and];rfl
theorem check_ref (s:ByteArray) (hs:s.size<90000) (k:Nat) (hk:2 * s.size+20≤k):R02_Check.f k s=some (checkN s):=by
  obtain ⟨k,rfl⟩:∃ j,k=j+1:=⟨k-1,by omega⟩
  have h3:R02_Check.j0 (k+1) s true=some 3:=by rw [R02_Check.j0,if_pos rfl]
  unfold R02_Check.f checkN
  by_cases h0:s.toList=([]:List UInt8)
  · have:=(toList_nil s).1 h0
    rw [if_pos h0,if_neg (fun h=>(formed_valid s h).1 this)];exact h3
  rw [if_neg h0,valid_ev s (by omega) _ (by omega),Option.bind_some]
  by_cases hv:validD s.data.toList=true
  rotate_left
  · rw [if_neg (fun h=>hv (formed_valid s h).2.1),Bool.eq_false_iff.2 hv];exact h3
  obtain ⟨e1,o1⟩:=valid_runesL _ hv
  have hlen:(runesOf s.data.toList).length≤s.size:=by
    have:=encL_len (runesOf s.data.toList)
    rw [e1,← size_len] at this;exact this
  have hne:s.size≠0:=fun h=>h0 ((toList_nil s).2 h)
  rw [hv,R02_Check.j0,if_neg (by decide),runes_ev s (by omega) _ (by omega),Option.bind_some,split_q _ (by omega) _ (by omega),Option.bind_some]
  have hfb:formedB s=((cutP (runesOf s.data.toList)).1 :: (cutP (runesOf s.data.toList)).2).all (partG true):=by
    unfold formedB
    rw [decide_eq_true hne,hv,form_cut,List.all_cons];rfl
  obtain ⟨s1,s2⟩:=cut_small (runesOf s.data.toList)
  have hcl:=cut_len (runesOf s.data.toList)
  have hcc:(runesOf s.data.toList).count 46≤(runesOf s.data.toList).length:=List.count_le_length
  generalize hps:(cutP (runesOf s.data.toList)).1 :: (cutP (runesOf s.data.toList)).2=ps at hfb
  have hpl:ps.length=(runesOf s.data.toList).count 46+1:=by rw [← hps,List.length_cons,hcl]
  have hm:ints (cutP (runesOf s.data.toList)).1 :: (cutP (runesOf s.data.toList)).2.map ints=ps.map ints:=by rw [← hps];rfl
  have hil:(ints (runesOf s.data.toList)).length=(runesOf s.data.toList).length:=by unfold ints;rw [List.length_map]
  have h:=check_l0 (ints (runesOf s.data.toList)) ps (by omega) s.size (by omega) (fun p hp=>by
    rw [← hps] at hp
    rcases List.mem_cons.1 hp with rfl|hp
    · omega
    · have:=s2 p hp;omega) (k-ps.length-1) (by omega) ps.length 0 (by omega)
  rw [show k-ps.length-1+ps.length+1=k by omega,List.drop_zero,← hfb,hil,hpl] at h
  rw [hm]
  refine h.trans ?_
  by_cases hf:formedB s=true
  rotate_left
  · rw [if_neg hf,if_neg hf]
  rw [if_pos hf,if_pos hf]
  by_cases h1:(runesOf s.data.toList).length>40
  · rw [if_pos (show ((runesOf s.data.toList).length:Int)>40 by omega),if_pos h1]
  rw [if_neg (show ¬ ((runesOf s.data.toList).length:Int)>40 by omega),if_neg h1]
  by_cases h2:(runesOf s.data.toList).count 46≥5
  · rw [if_pos (show ((((runesOf s.data.toList).count 46+1:Nat)):Int)>5 by omega),if_pos h2]
  · rw [if_neg (show ¬ ((((runesOf s.data.toList).count 46+1:Nat)):Int)>5 by omega),if_neg h2]
def simpleB (s:ByteArray):Bool:=decide (checkN s=0) && decide ((runesOf s.data.toList).count 46=0)
theorem check0 (s:ByteArray) (h:checkN s=0):formedB s=true:=by
  unfold checkN at h
  by_cases hf:formedB s=true
  · exact hf
  · rw [if_neg hf] at h;omega
theorem simple_q (s:ByteArray) (hs:s.size<1000000) (k:Nat):schema_simple.f (k+1) s=some (simpleB s):=by
  unfold schema_simple.f name_Parts.f simpleB
  rw [check_name s hs,Option.bind_some]
  by_cases h:checkN s=0
  · obtain ⟨h0,hv,hg⟩:=formed_valid s (check0 s h)
    obtain ⟨e1,o1⟩:=valid_runesL _ hv
    rw [if_pos h,Option.bind_some,if_pos h,decide_eq_true h,Bool.true_and]
    unfold strings_Split.f
    rw [if_pos (show s.size<4294967281 by omega),if_pos (by decide),Option.bind_some,Option.bind_some]
    have hl:=Lib.splitB_all (⟨#[46]⟩:ByteArray) (by decide) 0 (Lib.countB s ⟨#[46]⟩) s rfl
    have hc:Lib.countB s ⟨#[46]⟩=(runesOf s.data.toList).count 46:=by
      have h1:=count_enc 46 (by omega) _ o1
      rw [e1] at h1
      exact (Lib.count_one 46 s.data.toList).trans h1
    rw [hl,hc]
    by_cases hz:(runesOf s.data.toList).count 46=0
    · rw [decide_eq_true hz,hz];rfl
    · rw [decide_eq_false hz]
      refine congrArg some (beq_eq_false_iff_ne.2 ?_)
      omega
  · rw [if_neg h,decide_eq_false h,Bool.false_and]
theorem cut_mem:∀ (cs:List Nat),(∀ c∈(cutP cs).1,c∈cs)∧∀ p∈(cutP cs).2,∀ c∈p,c∈cs
  | []=>⟨fun c h=>(by cases h),fun p h=>(by cases h)⟩
  | c :: cs=>by
    obtain ⟨i1,i2⟩:=cut_mem cs
    rw [cutP]
    by_cases h:c=46
    · rw [if_pos h]
      refine ⟨fun x hx=>(by cases hx),fun p hp x hx=>?_⟩
      rcases List.mem_cons.1 hp with rfl|hp
      · exact List.mem_cons_of_mem _ (i1 x hx)
      · exact List.mem_cons_of_mem _ (i2 p hp x hx)
    · rw [if_neg h]
      refine ⟨fun x hx=>?_,fun p hp x hx=>List.mem_cons_of_mem _ (i2 p hp x hx)⟩
      rcases List.mem_cons.1 hx with rfl|hx
      · exact List.mem_cons_self
      · exact List.mem_cons_of_mem _ (i1 x hx)
theorem enc4 (c:Nat):(encodeRune (c:Int)).length≤4:=by
  unfold encodeRune
  rw [List.length_map]
  exact (encodeRuneZ_length (c:Int)).2
theorem bytes_e (c:Nat) (h:okC c):∃ E:ByteArray,R02_Bytes.f (c:Int)=some E∧E.size≤4:=by
  refine ⟨_,bytesR_q c h,?_⟩
  rw [size_len]
  have h4:=enc4 c
  generalize encodeRune (c:Int)=l at h4
  exact h4
theorem ints_len (p:List Nat):(ints p).length=p.length:=by unfold ints;rw [List.length_map]
theorem rdL (ps:List (List Nat)) (j:Nat) (hj:j<ps.length):rd_L19 (ps.map ints) (j:Int)=ints ps[j]:=by
  unfold rd_L19
  rw [Int.toNat_natCast,List.getD_eq_getElem?_getD,List.getElem?_map,List.getElem?_eq_getElem hj];rfl
theorem rdi (p:List Nat) (i:Nat) (h:i<p.length):rd (ints p) (i:Int)=((p[i]:Nat):Int):=by
  unfold rd ints
  rw [Int.toNat_natCast,List.getD_eq_getElem?_getD,List.getElem?_map,List.getElem?_eq_getElem h];rfl
theorem w1n (i:Nat) (h:i<200000):wrap64 ((i:Int)+1)=((i+1:Nat):Int):=by rw [w64 (by omega) (by omega)];omega
theorem parts_l1 (xs:List (List Int)) (p:List Nat) (acc:List ByteArray) (j:Nat) (hj:(j:Int)<(xs.length:Int)) (hp:rd_L19 xs (j:Int)=ints p) (hl:p.length<100000) (ho:∀ c∈p,okC c) (ha:acc.length<8796093022208) (hjj:j<200000):∀ (m i f:Nat) (t:ByteArray),i+m=p.length→t.size≤4 * i→m+1≤f →
    ∃ u,R02_Parts.l1 f xs acc (j:Int) t (i:Int)=R02_Parts.l0 (f-m-1) xs (acc++[u]) ((j+1:Nat):Int)
  | 0,i,f,t,hi,ht,hf=>by
    obtain ⟨f,rfl⟩:∃ g,f=g+1:=⟨f-1,(Nat.sub_add_cancel hf).symm⟩
    have h1:¬ ((i:Int)<((ints p).length:Int)):=by rw [ints_len];omega
    refine ⟨t,?_⟩
    rw [R02_Parts.l1,if_pos (Int.natCast_nonneg j),if_pos hj,hp,if_neg h1,if_pos ha,w1n j hjj]
    rfl
  | m+1,i,f,t,hi,ht,hf=>by
    obtain ⟨f,rfl⟩:∃ g,f=g+1:=⟨f-1,(Nat.sub_add_cancel (Nat.le_trans (Nat.succ_le_succ (Nat.zero_le _)) hf)).symm⟩
    have hlt:i<p.length:=by omega
    have h1:(i:Int)<((ints p).length:Int):=by rw [ints_len];omega
    have hi2:i<200000:=by omega
    obtain ⟨E,hE,hE4⟩:=bytes_e p[i] (ho _ (List.getElem_mem _))
    have hcat:t.size+E.size≤9223372036854775807:=by clear hE;omega
    have hsz:(t++E).size≤4 * (i+1):=by clear hE;rw [ByteArray.size_append];omega
    have hf2:m+1≤f:=by clear hE;omega
    have hi3:i+1+m=p.length:=by clear hE;omega
    obtain ⟨u,hu⟩:=parts_l1 xs p acc j hj hp hl ho ha hjj m (i+1) f (t++E) hi3 hsz hf2
    have e:f+1-(m+1)-1=f-m-1:=by clear hE hu;omega
    refine ⟨u,?_⟩
    rw [R02_Parts.l1,if_pos (Int.natCast_nonneg j),if_pos hj,hp,if_pos h1,if_pos (Int.natCast_nonneg i),rdi p i hlt,hE,Option.bind_some,if_pos hcat,w1n i hi2,e]
    exact hu
theorem parts_l0 (ps:List (List Nat)) (N:Nat) (hN:N<100000) (hp:∀ p∈ps,p.length≤N) (hl:ps.length<100000) (ho:∀ p∈ps,∀ c∈p,okC c):∀ (m i f:Nat) (acc:List ByteArray),i+m=ps.length→acc.length=i→m * (N+2)+1≤f →
    ∃ l,R02_Parts.l0 f (ps.map ints) acc (i:Int)=some l∧l.length=ps.length
  | 0,i,f,acc,hi,ha,hf=>by
    obtain ⟨f,rfl⟩:∃ g,f=g+1:=⟨f-1,by omega⟩
    have hil:(ps.map ints).length=ps.length:=List.length_map ..
    exact ⟨acc,by rw [R02_Parts.l0,if_neg (by omega)],by omega⟩
  | m+1,i,f,acc,hi,ha,hf=>by
    obtain ⟨f,rfl⟩:∃ g,f=g+1:=⟨f-1,by omega⟩
    have hil:(ps.map ints).length=ps.length:=List.length_map ..
    have hlt:i<ps.length:=by omega
    have hm:=hp ps[i] (List.getElem_mem _)
    rw [Nat.add_mul,Nat.one_mul] at hf
    obtain ⟨u,hu⟩:=parts_l1 (ps.map ints) ps[i] acc i (by omega) (rdL ps i hlt) (by omega) (ho _ (List.getElem_mem _)) (by omega) (by omega) ps[i].length 0 f ⟨#[]⟩ (by omega) (Nat.le_refl _) (by omega)
    rw [R02_Parts.l0,if_pos (by omega)]
    obtain ⟨l,e,h⟩:=parts_l0 ps N hN hp hl ho m (i+1) (f-ps[i].length-1) (acc++[u]) (by omega) (by rw [List.length_append];show acc.length+1=_;omega) (by omega)
    exact ⟨l,hu.trans e,h⟩
theorem simple_r (s:ByteArray) (hs:s.size<90000) (k:Nat) (hk:(s.size+2) * (s.size+2)+2 * s.size+20≤k):R04_Simple.f k s=some (simpleB s):=by
  have hmul:0≤(s.size+2) * (s.size+2):=Nat.zero_le _
  unfold R04_Simple.f R02_Parts.f simpleB
  rw [check_ref s hs k (by omega),Option.bind_some]
  by_cases h:checkN s=0
  · obtain ⟨h0,hv,hg⟩:=formed_valid s (check0 s h)
    obtain ⟨e1,o1⟩:=valid_runesL _ hv
    have hlen:(runesOf s.data.toList).length≤s.size:=by
      have:=encL_len (runesOf s.data.toList)
      rw [e1,← size_len] at this;exact this
    rw [if_pos h,Option.bind_some,if_pos h,decide_eq_true h,Bool.true_and,runes_ev s (by omega) _ (by omega),Option.bind_some,split_q _ (by omega) _ (by omega),Option.bind_some]
    obtain ⟨s1,s2⟩:=cut_small (runesOf s.data.toList)
    obtain ⟨m1,m2⟩:=cut_mem (runesOf s.data.toList)
    have hcl:=cut_len (runesOf s.data.toList)
    have hcc:(runesOf s.data.toList).count 46≤(runesOf s.data.toList).length:=List.count_le_length
    obtain ⟨l,e,hl⟩:=parts_l0 ((cutP (runesOf s.data.toList)).1 :: (cutP (runesOf s.data.toList)).2) s.size (by omega)
      (fun p hp=>by
        rcases List.mem_cons.1 hp with rfl|hp
        · omega
        · have:=s2 p hp;omega)
      (by rw [List.length_cons];omega)
      (fun p hp c hc=>by
        rcases List.mem_cons.1 hp with rfl|hp
        · exact o1 c (m1 c hc)
        · exact o1 c (m2 p hp c hc))
      ((cutP (runesOf s.data.toList)).2.length+1) 0 k [] (by rw [List.length_cons];omega) rfl (by
        have:((cutP (runesOf s.data.toList)).2.length+1) * (s.size+2)≤(s.size+2) * (s.size+2):=Nat.mul_le_mul_right _ (by omega)
        omega)
    have e':R02_Parts.l0 k (ints (cutP (runesOf s.data.toList)).1 :: List.map ints (cutP (runesOf s.data.toList)).2) ([]:List ByteArray) 0=some l:=e
    rw [e',Option.bind_some,hl,List.length_cons,hcl]
    by_cases hz:(runesOf s.data.toList).count 46=0
    · rw [decide_eq_true hz,hz];rfl
    · rw [decide_eq_false hz]
      refine congrArg some (beq_eq_false_iff_ne.2 ?_)
      omega
  · rw [if_neg h,decide_eq_false h,Bool.false_and]
def fieldB (s:ByteArray) (n:Int):Bool:=simpleB s && (decide (1≤n) && decide (n≤4))
theorem field_q (s:ByteArray) (n:Int) (m:Bool) (hs:s.size<1000000) (k:Nat):schema_field.f (k+1) s n m=some (fieldB s n):=by
  unfold schema_field.f fieldB
  rw [simple_q s hs,Option.bind_some]
  by_cases h:simpleB s=true
  · rw [if_pos h,h,Bool.true_and]
    unfold schema_word.f
    rw [Option.bind_some]
    by_cases h1:n=1
    · subst h1;decide +kernel
    by_cases h2:n=2
    · subst h2;decide +kernel
    by_cases h3:n=3
    · subst h3;decide +kernel
    by_cases h4:n=4
    · subst h4;decide +kernel
    rw [if_neg h1,if_neg h2,if_neg h3,if_neg h4]
    have e:(decide (1≤n) && decide (n≤4))=false:=by
      by_cases h5:1≤n
      · rw [decide_eq_false (show ¬ n≤4 by omega),Bool.and_false]
      · rw [decide_eq_false h5,Bool.false_and]
    rw [e];decide +kernel
  · rw [if_neg h,Bool.eq_false_iff.2 h,Bool.false_and]
theorem may_q (s:ByteArray) (n:Int) (m:Bool) (hs:s.size<90000) (k:Nat) (hk:(s.size+2) * (s.size+2)+2 * s.size+20≤k):R04_may.f k s n m=some (fieldB s n):=by
  unfold R04_may.f fieldB
  rw [simple_r s hs k hk,Option.bind_some]
  by_cases h:simpleB s=true
  · rw [if_pos h,h,Bool.true_and]
    by_cases h1:1≤n
    · rw [if_pos h1,decide_eq_true h1,Bool.true_and]
    · rw [if_neg h1,decide_eq_false h1,Bool.false_and]
  · rw [if_neg h,Bool.eq_false_iff.2 h,Bool.false_and]
def ordB {α:Type} (P:α→Bool) (R:α→α→Bool):Option α→List α→Bool
  | _,[]=>true
  | none,x :: xs=>P x && ordB P R (some x) xs
  | some y,x :: xs=>P x && (R y x && ordB P R (some x) xs)
theorem ordB_map {α β:Type} (f:α→β) (P:β→Bool) (R:β→β→Bool):∀ (o:Option α) (l:List α),ordB P R (o.map f) (l.map f)=ordB (fun x=>P (f x)) (fun x y=>R (f x) (f y)) o l
  | none,[]=>rfl
  | some y,[]=>rfl
  | none,x :: xs=>by
    have ih:=ordB_map f P R (some x) xs
    show (P (f x) && ordB P R ((some x).map f) (xs.map f))=_
    rw [ih];rfl
  | some y,x :: xs=>by
    have ih:=ordB_map f P R (some x) xs
    show (P (f x) && (R (f y) (f x) && ordB P R ((some x).map f) (xs.map f)))=_
    rw [ih];rfl
def lastO {α:Type} (pre:List α):Option α:=pre.getLast?
theorem lastO_nil {α:Type}:lastO ([]:List α)=none:=rfl
theorem lastO_snoc {α:Type} (q:List α) (y:α):lastO (q++[y])=some y:=by unfold lastO;simp
theorem snoc_cases {α:Type} (pre:List α):pre=[]∨∃ q y,pre=q++[y]:=by
  rcases List.eq_nil_or_concat pre with h|⟨q,y,h⟩
  · exact .inl h
  · exact .inr ⟨q,y,by rw [h,List.concat_eq_append]⟩
theorem dec_le (n m:Nat):(decide ((n:Int)≤(m:Int)))=decide (n≤m):=by
  by_cases h:n≤m
  · rw [decide_eq_true h,decide_eq_true (by omega)]
  · rw [decide_eq_false h,decide_eq_false (by omega)]
abbrev Fld:=S86
abbrev FldR:=S88
def fieldX (x:Fld):Bool:=fieldB x.f0 x.f1
def ltX (x y:Fld):Bool:=decide (cmpB x.f0 y.f0<0)
def fieldR (x:FldR):Bool:=fieldB x.f0 x.f1
def ltR (x y:FldR):Bool:=decide (cmpB x.f0 y.f0<0)
def checkF (l:List Fld):Bool:=ordB fieldX ltX none l && decide (l.length≤24)
theorem simple_valid (s:ByteArray) (h:simpleB s=true):validD s.data.toList=true:=by
  unfold simpleB at h
  rw [Bool.and_eq_true,decide_eq_true_eq] at h
  exact (formed_valid s (check0 s h.1)).2.1
theorem fieldB_valid (s:ByteArray) (n:Int) (h:fieldB s n=true):validD s.data.toList=true:=by
  unfold fieldB at h
  rw [Bool.and_eq_true] at h
  exact simple_valid _ h.1
theorem fieldX_valid (x:Fld) (h:fieldX x=true):validD x.f0.data.toList=true:=fieldB_valid x.f0 x.f1 h
theorem fieldR_valid (x:FldR) (h:fieldR x=true):validD x.f0.data.toList=true:=fieldB_valid x.f0 x.f1 h
theorem field_ev (s:ByteArray) (n:Int) (m:Bool) (hs:s.size<1000000):Evn (fun k=>schema_field.f k s n m) (fieldB s n):=Evn.of1 (fun k=>field_q s n m hs k)
theorem may_ev (s:ByteArray) (n:Int) (m:Bool) (hs:s.size<90000):Evn (fun k=>R04_may.f k s n m) (fieldB s n):=Evn.of _ (fun k hk=>may_q s n m hs k hk)
theorem cmp_ev (a b:ByteArray) (ha:a.size<20000) (hb:b.size<20000) (va:validD a.data.toList=true) (vb:validD b.data.toList=true):Evn (fun k=>name_Compare.f k a b) (cmpB a b):=Evn.of _ (fun k hk=>compare_q a b ha hb va vb k hk)
theorem cmpr_ev (a b:ByteArray) (ha:a.size<20000) (hb:b.size<20000) (va:validD a.data.toList=true) (vb:validD b.data.toList=true):Evn (fun k=>R02_Compare.f k a b) (cmpB a b):=Evn.of (4 * a.size+20+(4 * b.size+20)) (fun k hk=>compare_r a b ha hb va vb k (by omega) (by omega))
theorem schemacheck_l0 (l:List Fld) (hs:∀ x∈l,x.f0.size<20000) (hl:l.length<100000):
    ∀ post pre,l=pre++post→(∀ y,lastO pre=some y→fieldX y=true)→Evn (fun k=>schema_Check.l0 k l l (l.length:Int) (pre.length:Int)) (ordB fieldX ltX (lastO pre) post && decide (l.length≤24)):=by
  refine Evn.loop (g:=fun k i=>schema_Check.l0 k l l (l.length:Int) i) l (by omega) (fun pre=>∀ y,lastO pre=some y→fieldX y=true) (fun pre post=>ordB fieldX ltX (lastO pre) post && decide (l.length≤24)) ?_ ?_
  · intro hi hn
    refine Evn.step (fun k=>schema_Check.l0.eq_2 ..) (Evn.neg hn (Evn.con ?_))
    rw [show (24:Int)=((24:Nat):Int) from rfl,dec_le]
    rcases snoc_cases l with rfl|⟨q,y,rfl⟩
    · rfl
    · rw [lastO_snoc];rfl
  · intro pre x post e hi hlt h0 hw hget hmem ih
    have hrd:rd_T86 l (pre.length:Int)=x:=hget _
    have hsx:=hs x hmem
    refine Evn.step (fun k=>schema_Check.l0.eq_2 ..) (Evn.pos hlt (Evn.pos h0 (Evn.pos hlt ?_)))
    rw [hrd,hw]
    have ih':fieldX x=true→_:=fun hx=>ih (by intro y hy;rw [lastO_snoc] at hy;obtain rfl:=Option.some.inj hy;exact hx)
    rw [lastO_snoc] at ih'
    rcases snoc_cases pre with rfl|⟨q,y,rfl⟩
    · rw [lastO_nil]
      show Evn _ (((fieldB x.f0 x.f1) && ordB fieldX ltX (some x) post) && _)
      refine Evn.bind (field_ev x.f0 x.f1 x.f2 (by omega)) ?_
      by_cases h0:fieldB x.f0 x.f1=true
      case neg=>exact Evn.val (by simp [h0]) (Evn.neg h0 (Evn.ret false))
      refine Evn.pos h0 ?_
      have hx:fieldX x=true:=by show (fieldB x.f0 x.f1)=true;simp [h0]
      rw [h0]
      show Evn _ (ordB fieldX ltX (some x) post && _)
      exact Evn.neg (by decide) (ih' hx)
    · rw [lastO_snoc]
      show Evn _ (((fieldB x.f0 x.f1) && (ltX y x && ordB fieldX ltX (some x) post)) && _)
      refine Evn.bind (field_ev x.f0 x.f1 x.f2 (by omega)) ?_
      by_cases h0:fieldB x.f0 x.f1=true
      case neg=>exact Evn.val (by simp [h0]) (Evn.neg h0 (Evn.ret false))
      refine Evn.pos h0 ?_
      have hx:fieldX x=true:=by show (fieldB x.f0 x.f1)=true;simp [h0]
      rw [h0]
      show Evn _ ((ltX y x && ordB fieldX ltX (some x) post) && _)
      have hy:=hi y (lastO_snoc q y)
      have hrq:rd_T86 l (q.length:Int)=y:=by rw [e];exact getDq q y _ _
      have hql:(q.length:Int)<(l.length:Int):=by rw [List.length_append] at hlt;omega
      have hym:y∈l:=by rw [e];simp
      rw [w1m q y (by omega),hrq]
      refine Evn.pos (by rw [List.length_append];show ((q.length+1:Nat):Int)>0;omega) (Evn.pos (Int.natCast_nonneg _) (Evn.pos hql (Evn.bind (cmp_ev _ _ (hs y hym) (hs x hmem) (fieldX_valid y hy) (fieldX_valid x hx)) ?_)))
      unfold ltX
      by_cases hc:cmpB y.f0 x.f0<0
      · rw [decide_eq_true hc,Bool.true_and]
        exact Evn.neg (by omega) (ih' hx)
      · rw [decide_eq_false hc]
        exact Evn.pos (by omega) (Evn.ret _)
theorem schemacheck_ev (l:List Fld) (hs:∀ x∈l,x.f0.size<20000) (hl:l.length<100000):Evn (fun k=>schema_Check.f k l) (ordB fieldX ltX none l && decide (l.length≤24)):=
  schemacheck_l0 l hs hl l [] rfl (fun y h=>by cases h)
theorem caduceusref04check_l0 (l:List FldR) (hs:∀ x∈l,x.f0.size<20000) (hl:l.length<100000):
    ∀ post pre,l=pre++post→(∀ y,lastO pre=some y→fieldR y=true)→Evn (fun k=>R04_Check.l0 k l (pre.length:Int)) (ordB fieldR ltR (lastO pre) post && decide (l.length≤24)):=by
  refine Evn.loop (g:=fun k i=>R04_Check.l0 k l i) l (by omega) (fun pre=>∀ y,lastO pre=some y→fieldR y=true) (fun pre post=>ordB fieldR ltR (lastO pre) post && decide (l.length≤24)) ?_ ?_
  · intro hi hn
    refine Evn.step (fun k=>R04_Check.l0.eq_2 ..) (Evn.neg hn (Evn.con ?_))
    rw [show (24:Int)=((24:Nat):Int) from rfl,dec_le]
    rcases snoc_cases l with rfl|⟨q,y,rfl⟩
    · rfl
    · rw [lastO_snoc];rfl
  · intro pre x post e hi hlt h0 hw hget hmem ih
    have hrd:rd_T88 l (pre.length:Int)=x:=hget _
    have hsx:=hs x hmem
    refine Evn.step (fun k=>R04_Check.l0.eq_2 ..) (Evn.pos hlt (Evn.pos h0 ?_))
    rw [hrd,hw]
    have ih':fieldR x=true→_:=fun hx=>ih (by intro y hy;rw [lastO_snoc] at hy;obtain rfl:=Option.some.inj hy;exact hx)
    rw [lastO_snoc] at ih'
    rcases snoc_cases pre with rfl|⟨q,y,rfl⟩
    · rw [lastO_nil]
      show Evn _ (((fieldB x.f0 x.f1) && ordB fieldR ltR (some x) post) && _)
      refine Evn.bind (may_ev x.f0 x.f1 x.f2 (by omega)) ?_
      by_cases h0:fieldB x.f0 x.f1=true
      case neg=>exact Evn.val (by simp [h0]) (Evn.neg h0 (Evn.ret false))
      refine Evn.pos h0 ?_
      have hx:fieldR x=true:=by show (fieldB x.f0 x.f1)=true;simp [h0]
      rw [h0]
      show Evn _ (ordB fieldR ltR (some x) post && _)
      exact Evn.neg (by decide) (ih' hx)
    · rw [lastO_snoc]
      show Evn _ (((fieldB x.f0 x.f1) && (ltR y x && ordB fieldR ltR (some x) post)) && _)
      refine Evn.bind (may_ev x.f0 x.f1 x.f2 (by omega)) ?_
      by_cases h0:fieldB x.f0 x.f1=true
      case neg=>exact Evn.val (by simp [h0]) (Evn.neg h0 (Evn.ret false))
      refine Evn.pos h0 ?_
      have hx:fieldR x=true:=by show (fieldB x.f0 x.f1)=true;simp [h0]
      rw [h0]
      show Evn _ ((ltR y x && ordB fieldR ltR (some x) post) && _)
      have hy:=hi y (lastO_snoc q y)
      have hrq:rd_T88 l (q.length:Int)=y:=by rw [e];exact getDq q y _ _
      have hql:(q.length:Int)<(l.length:Int):=by rw [List.length_append] at hlt;omega
      have hym:y∈l:=by rw [e];simp
      rw [w1m q y (by omega),hrq]
      refine Evn.pos (by rw [List.length_append];show ((q.length+1:Nat):Int)>0;omega) (Evn.pos (Int.natCast_nonneg _) (Evn.pos hql (Evn.bind (cmpr_ev _ _ (hs y hym) (hs x hmem) (fieldR_valid y hy) (fieldR_valid x hx)) ?_)))
      unfold ltR
      by_cases hc:cmpB y.f0 x.f0<0
      · rw [decide_eq_true hc,Bool.true_and]
        exact Evn.neg (by omega) (ih' hx)
      · rw [decide_eq_false hc]
        exact Evn.pos (by omega) (Evn.ret _)
theorem caduceusref04check_ev (l:List FldR) (hs:∀ x∈l,x.f0.size<20000) (hl:l.length<100000):Evn (fun k=>R04_Check.f k l) (ordB fieldR ltR none l && decide (l.length≤24)):=
  caduceusref04check_l0 l hs hl l [] rfl (fun y h=>by cases h)
def toR (x:Fld):FldR:=⟨x.f0,x.f1,x.f2⟩
theorem check_q (l:List Fld) (hs:∀ x∈l,x.f0.size<20000) (hl:l.length<100000):Evn (fun k=>schema_Check.f k l) (checkF l):=schemacheck_ev l hs hl
theorem check_r (l:List Fld) (hs:∀ x∈l,x.f0.size<20000) (hl:l.length<100000):Evn (fun k=>R04_Check.f k (l.map toR)) (checkF l):=by
  have h:=caduceusref04check_ev (l.map toR) (fun x hx=>by obtain ⟨y,hy,rfl⟩:=List.mem_map.1 hx;exact hs y hy) (by rw [List.length_map];exact hl)
  have e:=ordB_map toR fieldR ltR none l
  rw [List.length_map] at h
  refine Evn.val ?_ h
  show (ordB fieldR ltR (Option.map toR none) (l.map toR) && _)=_
  rw [e];rfl
theorem getD2F {α γ:Type} (pre:List γ) (x:γ) (post:List γ) (z:γ) (pre':List α) (h:pre'.length=pre.length):(pre++x :: post).getD ((pre'.length:Int)).toNat z=x:=by
  rw [h];exact getDp pre x post z
def neF (x y:Fld):Bool:=!((x.f0.toList) == (y.f0.toList)) || (!(x.f1 == y.f1) || (!(x.f2 == y.f2)))
def eqFL:List Fld→List Fld→Bool
  | x :: p,y :: q=>if neF x y=true then false else eqFL p q
  | _,_=>true
theorem eqFQ_l0:∀ (p q pre pre':List Fld),pre'.length=pre.length→p.length=q.length→(pre++p).length<1000000 →
    Evn (fun k=>api_Field_64.l0 k (pre++p) (pre'++q) ((pre++p).length:Int) (pre.length:Int)) (eqFL p q)
  | [],[],pre,pre',h,hp,hb=>Evn.step (fun k=>api_Field_64.l0.eq_2 ..) (Evn.neg (nltp pre) (Evn.ret _))
  | [],y :: q,pre,pre',h,hp,hb=>by cases hp
  | x :: p,[],pre,pre',h,hp,hb=>by cases hp
  | x :: p,y :: q,pre,pre',h,hp,hb=>by
    have hlt:=ltp pre x p
    have hlt':=ltp pre' y q
    have hw:=w1p pre x (by rw [List.length_append] at hb;omega)
    have g1:∀ z:Fld,(pre++x :: p).getD ((pre.length:Int)).toNat z=x:=fun z=>getDp pre x p z
    have g2:∀ z:Fld,(pre'++y :: q).getD ((pre.length:Int)).toNat z=y:=fun z=>getD2F pre' y q z pre h.symm
    have ih:=eqFQ_l0 p q (pre++[x]) (pre'++[y]) (by rw [snocLen,snocLen,h]) (by simpa using hp) (by rw [List.append_assoc];exact hb)
    rw [List.append_assoc,List.append_assoc] at ih
    refine Evn.step (fun k=>api_Field_64.l0.eq_2 ..) (Evn.pos hlt (Evn.pos (Int.natCast_nonneg _) (Evn.pos hlt (Evn.pos (by rw [← h];exact hlt') ?_))))
    unfold rd_T86
    rw [g1,g2,hw,eqFL]
    by_cases hn:neF x y=true
    · rw [if_pos hn]
      exact Evn.pos hn (Evn.ret _)
    · rw [if_neg hn]
      exact Evn.neg hn ih
def eqF (l m:List Fld):Bool:=if l.length=m.length then eqFL l m else false
theorem eqFQ_ev (l m:List Fld) (hl:l.length<1000000):Evn (fun k=>api_Field_64.f k l m) (eqF l m):=by
  unfold eqF
  by_cases h:l.length=m.length
  · rw [if_pos h]
    exact Evn.pos (by omega) (eqFQ_l0 l m [] [] rfl h hl)
  · rw [if_neg h]
    exact Evn.neg (by omega) (Evn.ret _)
theorem rdMF (pre:List Fld) (x:Fld) (post:List Fld) (z:FldR) (n:Int) (h:n=(pre.length:Int)):((pre++x :: post).map toR).getD n.toNat z=toR x:=by
  rw [h];exact getDm toR pre x post z
theorem eqFR_l0:∀ (p q pre pre':List Fld),pre'.length=pre.length→p.length=q.length→(pre++p).length<1000000 →
    Evn (fun k=>R04_Same.l0 k ((pre++p).map toR) ((pre'++q).map toR) (pre.length:Int)) (eqFL p q)
  | [],[],pre,pre',h,hp,hb=>Evn.step (fun k=>R04_Same.l0.eq_2 ..) (Evn.neg (by rw [List.length_map];exact nltp pre) (Evn.ret _))
  | [],y :: q,pre,pre',h,hp,hb=>by cases hp
  | x :: p,[],pre,pre',h,hp,hb=>by cases hp
  | x :: p,y :: q,pre,pre',h,hp,hb=>by
    have hlt:=ltp pre x p
    have hlt':=ltp pre' y q
    have hw:=w1p pre x (by rw [List.length_append] at hb;omega)
    have g1:∀ z:FldR,((pre++x :: p).map toR).getD ((pre.length:Int)).toNat z=toR x:=fun z=>rdMF pre x p z _ rfl
    have g2:∀ z:FldR,((pre'++y :: q).map toR).getD ((pre.length:Int)).toNat z=toR y:=fun z=>rdMF pre' y q z _ (by rw [h])
    have ih:=eqFR_l0 p q (pre++[x]) (pre'++[y]) (by rw [snocLen,snocLen,h]) (by simpa using hp) (by rw [List.append_assoc];exact hb)
    rw [List.append_assoc,List.append_assoc] at ih
    refine Evn.step (fun k=>R04_Same.l0.eq_2 ..) (Evn.pos (by rw [List.length_map];exact hlt) (Evn.pos (Int.natCast_nonneg _) (Evn.pos (by rw [List.length_map,← h];exact hlt') ?_)))
    unfold rd_T88
    rw [g1,g2,hw,eqFL]
    by_cases hn:neF x y=true
    · rw [if_pos hn]
      exact Evn.pos hn (Evn.ret _)
    · rw [if_neg hn]
      exact Evn.neg hn ih
theorem eqFR_ev (l m:List Fld) (hl:l.length<1000000):Evn (fun k=>R04_Same.f k (l.map toR) (m.map toR)) (eqF l m):=by
  unfold eqF
  by_cases h:l.length=m.length
  · rw [if_pos h]
    exact Evn.pos (by rw [List.length_map,List.length_map];omega) (eqFR_l0 l m [] [] rfl h hl)
  · rw [if_neg h]
    exact Evn.neg (by rw [List.length_map,List.length_map];omega) (Evn.ret _)
theorem eqFL_eq:∀ (p q:List Fld),p.length=q.length→eqFL p q=true→p=q
  | [],[],_,_=>rfl
  | [],y :: q,h,_=>by cases h
  | x :: p,[],h,_=>by cases h
  | x :: p,y :: q,h,h2=>by
    rw [eqFL] at h2
    by_cases hn:neF x y=true
    · rw [if_pos hn] at h2;cases h2
    · rw [if_neg hn] at h2
      rw [eqFL_eq p q (by simpa using h) h2]
      unfold neF at hn
      rw [Bool.or_eq_true,Bool.or_eq_true,Bool.not_eq_true',Bool.not_eq_true',Bool.not_eq_true',beq_eq_false_iff_ne,beq_eq_false_iff_ne,beq_eq_false_iff_ne] at hn
      have e1:x.f0.toList=y.f0.toList:=Classical.byContradiction fun h=>hn (.inl h)
      have e2:x.f1=y.f1:=Classical.byContradiction fun h=>hn (.inr (.inl h))
      have e3:x.f2=y.f2:=Classical.byContradiction fun h=>hn (.inr (.inr h))
      have e0:x.f0=y.f0:=ByteArray.ext (Array.toList_inj.1 (by rw [← ByteArray.toList_eq,← ByteArray.toList_eq];exact e1))
      obtain ⟨x0,x1,x2⟩:=x
      obtain ⟨y0,y1,y2⟩:=y
      cases e0
      cases e2
      cases e3
      rfl
theorem eqF_eq (l m:List Fld) (h:eqF l m=true):l=m:=by
  unfold eqF at h
  by_cases h1:l.length=m.length
  · rw [if_pos h1] at h
    exact eqFL_eq l m h1 h
  · rw [if_neg h1] at h;cases h
abbrev Att:=S76
abbrev AttR:=S114
def valB (n i:Int) (s:ByteArray):Bool:=(value_Check.f n i s).getD false
theorem val_both (k:Nat) (hk:206≤k) (a0 a1:Int) (a2:ByteArray):∃ b,value_Check.f a0 a1 a2=some b∧R03_Check.f k a0 a1 a2=some b:=by
  unfold value_Check.f R03_Check.f
  by_cases hs:(a2.size:Int)≤200
  · rw [valid_ev a2 (by omega) k (by omega)]
    have:utf8_ValidString.f a2=some (Go.Lib.validD a2.data.toList):=by
      unfold utf8_ValidString.f;rw [if_pos (by omega)]
    rw [this]
    simp only [Option.bind_some]
    repeat' split
    all_goals exact ⟨_,rfl,rfl⟩
  · simp only [hs,if_false]
    repeat' split
    all_goals exact ⟨_,rfl,rfl⟩
theorem val_total (a0 a1:Int) (a2:ByteArray):∃ b,value_Check.f a0 a1 a2=some b:=by
  unfold value_Check.f
  by_cases hs:(a2.size:Int)≤200
  · have:utf8_ValidString.f a2=some (Go.Lib.validD a2.data.toList):=by
      unfold utf8_ValidString.f;rw [if_pos (by omega)]
    rw [this]
    simp only [Option.bind_some]
    repeat' split
    all_goals exact ⟨_,rfl⟩
  · simp only [hs,if_false]
    repeat' split
    all_goals exact ⟨_,rfl⟩
theorem val_q (n i:Int) (s:ByteArray):value_Check.f n i s=some (valB n i s):=by
  obtain ⟨b,h⟩:=val_total n i s
  unfold valB
  rw [h];rfl
theorem val_r (n i:Int) (s:ByteArray):Evn (fun k=>R03_Check.f k n i s) (valB n i s):=Evn.of 206 (fun k hk=>by
  obtain ⟨b,h,h'⟩:=val_both k hk n i s
  unfold valB
  rw [h,h'];rfl)
def attX (x:Att):Bool:=simpleB x.f0 && valB x.f1.f0 x.f1.f1 x.f1.f2
def attR (x:AttR):Bool:=simpleB x.f0 && valB x.f1.f0 x.f1.f1 x.f1.f2
def ltA (x y:Att):Bool:=decide (cmpB x.f0 y.f0<0)
def ltAR (x y:AttR):Bool:=decide (cmpB x.f0 y.f0<0)
def checkA (l:List Att):Bool:=ordB attX ltA none l && decide (l.length≤24)
theorem attX_valid (x:Att) (h:attX x=true):validD x.f0.data.toList=true:=by
  unfold attX at h
  rw [Bool.and_eq_true] at h
  exact simple_valid _ h.1
theorem attR_valid (x:AttR) (h:attR x=true):validD x.f0.data.toList=true:=by
  unfold attR at h
  rw [Bool.and_eq_true] at h
  exact simple_valid _ h.1
theorem simple_ev (s:ByteArray) (hs:s.size<1000000):Evn (fun k=>schema_simple.f k s) (simpleB s):=Evn.of1 (fun k=>simple_q s hs k)
theorem simpler_ev (s:ByteArray) (hs:s.size<90000):Evn (fun k=>R04_Simple.f k s) (simpleB s):=Evn.of _ (fun k hk=>simple_r s hs k hk)
theorem schemaattrs_l0 (l:List Att) (hs:∀ x∈l,x.f0.size<20000) (hl:l.length<100000):
    ∀ post pre,l=pre++post→(∀ y,lastO pre=some y→attX y=true)→Evn (fun k=>schema_Attrs.l0 k l l (l.length:Int) (pre.length:Int)) (ordB attX ltA (lastO pre) post && decide (l.length≤24)):=by
  refine Evn.loop (g:=fun k i=>schema_Attrs.l0 k l l (l.length:Int) i) l (by omega) (fun pre=>∀ y,lastO pre=some y→attX y=true) (fun pre post=>ordB attX ltA (lastO pre) post && decide (l.length≤24)) ?_ ?_
  · intro hi hn
    refine Evn.step (fun k=>schema_Attrs.l0.eq_2 ..) (Evn.neg hn (Evn.con ?_))
    rw [show (24:Int)=((24:Nat):Int) from rfl,dec_le]
    rcases snoc_cases l with rfl|⟨q,y,rfl⟩
    · rfl
    · rw [lastO_snoc];rfl
  · intro pre x post e hi hlt h0 hw hget hmem ih
    have hrd:rd_T76 l (pre.length:Int)=x:=hget _
    have hsx:=hs x hmem
    refine Evn.step (fun k=>schema_Attrs.l0.eq_2 ..) (Evn.pos hlt (Evn.pos h0 (Evn.pos hlt ?_)))
    rw [hrd,hw]
    have ih':attX x=true→_:=fun hx=>ih (by intro y hy;rw [lastO_snoc] at hy;obtain rfl:=Option.some.inj hy;exact hx)
    rw [lastO_snoc] at ih'
    rcases snoc_cases pre with rfl|⟨q,y,rfl⟩
    · rw [lastO_nil]
      show Evn _ (((simpleB x.f0 && valB x.f1.f0 x.f1.f1 x.f1.f2) && ordB attX ltA (some x) post) && _)
      refine Evn.bind (simple_ev x.f0 (by omega)) ?_
      by_cases h0:simpleB x.f0=true
      case neg=>exact Evn.val (by simp [h0]) (Evn.neg h0 (Evn.ret false))
      refine Evn.pos h0 ?_
      refine Evn.bind (Evn.con (val_q x.f1.f0 x.f1.f1 x.f1.f2)) ?_
      by_cases h1:valB x.f1.f0 x.f1.f1 x.f1.f2=true
      case neg=>exact Evn.val (by simp [h1]) (Evn.neg h1 (Evn.ret false))
      refine Evn.pos h1 ?_
      have hx:attX x=true:=by show (simpleB x.f0 && valB x.f1.f0 x.f1.f1 x.f1.f2)=true;simp [h0,h1]
      rw [h0,h1]
      show Evn _ (ordB attX ltA (some x) post && _)
      exact Evn.neg (by decide) (ih' hx)
    · rw [lastO_snoc]
      show Evn _ (((simpleB x.f0 && valB x.f1.f0 x.f1.f1 x.f1.f2) && (ltA y x && ordB attX ltA (some x) post)) && _)
      refine Evn.bind (simple_ev x.f0 (by omega)) ?_
      by_cases h0:simpleB x.f0=true
      case neg=>exact Evn.val (by simp [h0]) (Evn.neg h0 (Evn.ret false))
      refine Evn.pos h0 ?_
      refine Evn.bind (Evn.con (val_q x.f1.f0 x.f1.f1 x.f1.f2)) ?_
      by_cases h1:valB x.f1.f0 x.f1.f1 x.f1.f2=true
      case neg=>exact Evn.val (by simp [h1]) (Evn.neg h1 (Evn.ret false))
      refine Evn.pos h1 ?_
      have hx:attX x=true:=by show (simpleB x.f0 && valB x.f1.f0 x.f1.f1 x.f1.f2)=true;simp [h0,h1]
      rw [h0,h1]
      show Evn _ ((ltA y x && ordB attX ltA (some x) post) && _)
      have hy:=hi y (lastO_snoc q y)
      have hrq:rd_T76 l (q.length:Int)=y:=by rw [e];exact getDq q y _ _
      have hql:(q.length:Int)<(l.length:Int):=by rw [List.length_append] at hlt;omega
      have hym:y∈l:=by rw [e];simp
      rw [w1m q y (by omega),hrq]
      refine Evn.pos (by rw [List.length_append];show ((q.length+1:Nat):Int)>0;omega) (Evn.pos (Int.natCast_nonneg _) (Evn.pos hql (Evn.bind (cmp_ev _ _ (hs y hym) (hs x hmem) (attX_valid y hy) (attX_valid x hx)) ?_)))
      unfold ltA
      by_cases hc:cmpB y.f0 x.f0<0
      · rw [decide_eq_true hc,Bool.true_and]
        exact Evn.neg (by omega) (ih' hx)
      · rw [decide_eq_false hc]
        exact Evn.pos (by omega) (Evn.ret _)
theorem schemaattrs_ev (l:List Att) (hs:∀ x∈l,x.f0.size<20000) (hl:l.length<100000):Evn (fun k=>schema_Attrs.f k l) (ordB attX ltA none l && decide (l.length≤24)):=
  schemaattrs_l0 l hs hl l [] rfl (fun y h=>by cases h)
theorem caduceusref04attrs_l0 (l:List AttR) (hs:∀ x∈l,x.f0.size<20000) (hl:l.length<100000):
    ∀ post pre,l=pre++post→(∀ y,lastO pre=some y→attR y=true)→Evn (fun k=>R04_Attrs.l0 k l (pre.length:Int)) (ordB attR ltAR (lastO pre) post && decide (l.length≤24)):=by
  refine Evn.loop (g:=fun k i=>R04_Attrs.l0 k l i) l (by omega) (fun pre=>∀ y,lastO pre=some y→attR y=true) (fun pre post=>ordB attR ltAR (lastO pre) post && decide (l.length≤24)) ?_ ?_
  · intro hi hn
    refine Evn.step (fun k=>R04_Attrs.l0.eq_2 ..) (Evn.neg hn (Evn.con ?_))
    rw [show (24:Int)=((24:Nat):Int) from rfl,dec_le]
    rcases snoc_cases l with rfl|⟨q,y,rfl⟩
    · rfl
    · rw [lastO_snoc];rfl
  · intro pre x post e hi hlt h0 hw hget hmem ih
    have hrd:rd_T114 l (pre.length:Int)=x:=hget _
    have hsx:=hs x hmem
    refine Evn.step (fun k=>R04_Attrs.l0.eq_2 ..) (Evn.pos hlt (Evn.pos h0 ?_))
    rw [hrd,hw]
    have ih':attR x=true→_:=fun hx=>ih (by intro y hy;rw [lastO_snoc] at hy;obtain rfl:=Option.some.inj hy;exact hx)
    rw [lastO_snoc] at ih'
    rcases snoc_cases pre with rfl|⟨q,y,rfl⟩
    · rw [lastO_nil]
      show Evn _ (((simpleB x.f0 && valB x.f1.f0 x.f1.f1 x.f1.f2) && ordB attR ltAR (some x) post) && _)
      refine Evn.bind (simpler_ev x.f0 (by omega)) ?_
      by_cases h0:simpleB x.f0=true
      case neg=>exact Evn.val (by simp [h0]) (Evn.neg h0 (Evn.ret false))
      refine Evn.pos h0 ?_
      refine Evn.bind (val_r x.f1.f0 x.f1.f1 x.f1.f2) ?_
      by_cases h1:valB x.f1.f0 x.f1.f1 x.f1.f2=true
      case neg=>exact Evn.val (by simp [h1]) (Evn.neg h1 (Evn.ret false))
      refine Evn.pos h1 ?_
      have hx:attR x=true:=by show (simpleB x.f0 && valB x.f1.f0 x.f1.f1 x.f1.f2)=true;simp [h0,h1]
      rw [h0,h1]
      show Evn _ (ordB attR ltAR (some x) post && _)
      exact Evn.neg (by decide) (ih' hx)
    · rw [lastO_snoc]
      show Evn _ (((simpleB x.f0 && valB x.f1.f0 x.f1.f1 x.f1.f2) && (ltAR y x && ordB attR ltAR (some x) post)) && _)
      refine Evn.bind (simpler_ev x.f0 (by omega)) ?_
      by_cases h0:simpleB x.f0=true
      case neg=>exact Evn.val (by simp [h0]) (Evn.neg h0 (Evn.ret false))
      refine Evn.pos h0 ?_
      refine Evn.bind (val_r x.f1.f0 x.f1.f1 x.f1.f2) ?_
      by_cases h1:valB x.f1.f0 x.f1.f1 x.f1.f2=true
      case neg=>exact Evn.val (by simp [h1]) (Evn.neg h1 (Evn.ret false))
      refine Evn.pos h1 ?_
      have hx:attR x=true:=by show (simpleB x.f0 && valB x.f1.f0 x.f1.f1 x.f1.f2)=true;simp [h0,h1]
      rw [h0,h1]
      show Evn _ ((ltAR y x && ordB attR ltAR (some x) post) && _)
      have hy:=hi y (lastO_snoc q y)
      have hrq:rd_T114 l (q.length:Int)=y:=by rw [e];exact getDq q y _ _
      have hql:(q.length:Int)<(l.length:Int):=by rw [List.length_append] at hlt;omega
      have hym:y∈l:=by rw [e];simp
      rw [w1m q y (by omega),hrq]
      refine Evn.pos (by rw [List.length_append];show ((q.length+1:Nat):Int)>0;omega) (Evn.pos (Int.natCast_nonneg _) (Evn.pos hql (Evn.bind (cmpr_ev _ _ (hs y hym) (hs x hmem) (attR_valid y hy) (attR_valid x hx)) ?_)))
      unfold ltAR
      by_cases hc:cmpB y.f0 x.f0<0
      · rw [decide_eq_true hc,Bool.true_and]
        exact Evn.neg (by omega) (ih' hx)
      · rw [decide_eq_false hc]
        exact Evn.pos (by omega) (Evn.ret _)
theorem caduceusref04attrs_ev (l:List AttR) (hs:∀ x∈l,x.f0.size<20000) (hl:l.length<100000):Evn (fun k=>R04_Attrs.f k l) (ordB attR ltAR none l && decide (l.length≤24)):=
  caduceusref04attrs_l0 l hs hl l [] rfl (fun y h=>by cases h)
def toAR (x:Att):AttR:=⟨x.f0,⟨x.f1.f0,x.f1.f1,x.f1.f2⟩⟩
theorem attrs_q (l:List Att) (hs:∀ x∈l,x.f0.size<20000) (hl:l.length<100000):Evn (fun k=>schema_Attrs.f k l) (checkA l):=schemaattrs_ev l hs hl
theorem attrs_r (l:List Att) (hs:∀ x∈l,x.f0.size<20000) (hl:l.length<100000):Evn (fun k=>R04_Attrs.f k (l.map toAR)) (checkA l):=by
  have h:=caduceusref04attrs_ev (l.map toAR) (fun x hx=>by obtain ⟨y,hy,rfl⟩:=List.mem_map.1 hx;exact hs y hy) (by rw [List.length_map];exact hl)
  have e:=ordB_map toAR attR ltAR none l
  rw [List.length_map] at h
  refine Evn.val ?_ h
  show (ordB attR ltAR (Option.map toAR none) (l.map toAR) && _)=_
  rw [e];rfl
def sameB (a b:ByteArray):Bool:=(foldB a).toList == (foldB b).toList
theorem nameSame_q (a b:ByteArray) (ha:a.size<90000) (hb:b.size<90000):name_Same.f a b=some (sameB a b):=by
  unfold name_Same.f
  rw [fold_q a (by omega),Option.bind_some,fold_q b (by omega),Option.bind_some];rfl
theorem nameSame_r (a b:ByteArray) (ha:a.size<90000) (hb:b.size<90000):Evn (fun k=>R04_same.f k a b) (sameB a b):=Evn.of (2 * a.size+20+(2 * b.size+20)) (fun k hk=>by
  unfold R04_same.f
  rw [fold_r a ha k (by omega),Option.bind_some,fold_r b hb k (by omega),Option.bind_some];rfl)
def atI {α:Type} (p:α→Bool):Nat→List α→Int
  | _,[]=>-1
  | i,x :: xs=>if p x=true then (i:Int) else atI p (i+1) xs
theorem at_find {α:Type} (p:α→Bool):∀ (l:List α) (i:Nat),(atI p i l = -1∧l.find? p=none)∨∃ pre x post,l=pre++x :: post∧atI p i l=((i+pre.length:Nat):Int)∧l.find? p=some x
  | [],i=>.inl ⟨rfl,rfl⟩
  | x :: xs,i=>by
    rw [atI,List.find?_cons]
    by_cases h:p x=true
    · rw [if_pos h,h]
      exact .inr ⟨[],x,xs,rfl,rfl,rfl⟩
    · rw [if_neg h,Bool.eq_false_iff.2 h]
      rcases at_find p xs (i+1) with h1|⟨pre,y,post,h1,h2,h3⟩
      · exact .inl h1
      · refine .inr ⟨x :: pre,y,post,by rw [h1];rfl,?_,h3⟩
        rw [h2,List.length_cons];omega
theorem idxK_at {α:Type} (f:α→Option Bool) (p:α→Bool):∀ (l:List α) (i:Nat),(∀ x∈l,f x=some (p x))→idxK f l i=some (atI p i l)
  | [],i,h=>rfl
  | x :: xs,i,h=>by
    rw [idxK,atI,h x List.mem_cons_self,Option.bind_some]
    by_cases h1:p x=true
    · rw [if_pos h1,if_pos h1]
    · rw [if_neg h1,if_neg h1]
      exact idxK_at f p xs (i+1) (fun y hy=>h y (List.mem_cons_of_mem _ hy))
def findF (l:List Fld) (s:ByteArray):Option Fld:=l.find? (fun x=>sameB x.f0 s)
def findA (l:List Att) (s:ByteArray):Option Att:=l.find? (fun x=>sameB x.f0 s)
def atF (l:List Fld) (s:ByteArray):Int:=atI (fun x=>sameB x.f0 s) 0 l
def atA (l:List Att) (s:ByteArray):Int:=atI (fun x=>sameB x.f0 s) 0 l
def foundF:Option Fld→ByteArray × Int × Bool × Bool
  | none=>(⟨#[]⟩,0,false,false)
  | some x=>(x.f0,x.f1,x.f2,true)
def foundA:Option Att→Int × Int × ByteArray × Bool
  | none=>(0,0,⟨#[]⟩,false)
  | some x=>(x.f1.f0,x.f1.f1,x.f1.f2,true)
theorem schemaFind_q (l:List Fld) (s:ByteArray) (hl:∀ x∈l,x.f0.size<20000) (hs:s.size<90000):schema_Find.f l s=some (foundF (findF l s)):=by
  unfold schema_Find.f
  rw [idxK_at _ (fun x:Fld=>sameB x.f0 s) l 0 (fun x hx=>nameSame_q x.f0 s (by have:=hl x hx;omega) hs),Option.bind_some]
  unfold findF
  rcases at_find (fun x:Fld=>sameB x.f0 s) l 0 with ⟨h1,h2⟩|⟨pre,x,post,e,h1,h2⟩
  · rw [h1,h2,if_pos (by decide)];rfl
  · rw [Nat.zero_add] at h1
    have hrd:rd_T86 l (pre.length:Int)=x:=by rw [e];exact getDp pre x post _
    rw [h1,h2,if_neg (by omega),hrd];rfl
theorem get_q (l:List Att) (s:ByteArray) (hl:∀ x∈l,x.f0.size<20000) (hs:s.size<90000):schema_Get.f l s=some (foundA (findA l s)):=by
  unfold schema_Get.f
  rw [idxK_at _ (fun x:Att=>sameB x.f0 s) l 0 (fun x hx=>nameSame_q x.f0 s (by have:=hl x hx;omega) hs),Option.bind_some]
  unfold findA
  rcases at_find (fun x:Att=>sameB x.f0 s) l 0 with ⟨h1,h2⟩|⟨pre,x,post,e,h1,h2⟩
  · rw [h1,h2,if_pos (by decide)];rfl
  · rw [Nat.zero_add] at h1
    have hrd:rd_T76 l (pre.length:Int)=x:=by rw [e];exact getDp pre x post _
    rw [h1,h2,if_neg (by omega),hrd];rfl
theorem schemaFind_r (l:List Fld) (s:ByteArray) (hl:∀ x∈l,x.f0.size<20000) (hs:s.size<90000) (hn:l.length<1000000):Evn (fun k=>R04_Find.f k (l.map toR) s) (atF l s):=by
  refine Evn.loop (g:=fun k i=>R04_Find.l0 k (l.map toR) s i) l (by omega) (fun _=>True) (fun pre post=>atI (fun x=>sameB x.f0 s) pre.length post) ?_ ?_ l [] rfl trivial
  · intro _ hq
    exact Evn.step (fun k=>R04_Find.l0.eq_2 ..) (Evn.neg (by rw [List.length_map];exact hq) (Evn.ret _))
  · intro pre x post e _ hlt h0 hw hget hmem ih
    have hrd:rd_T88 (l.map toR) (pre.length:Int)=toR x:=by rw [e];exact getDm toR pre x post _
    refine Evn.step (fun k=>R04_Find.l0.eq_2 ..) (Evn.pos (by rw [List.length_map];exact hlt) (Evn.pos h0 ?_))
    rw [hrd,hw,atI]
    refine Evn.bind (nameSame_r x.f0 s (by have:=hl x hmem;omega) hs) ?_
    by_cases h:sameB x.f0 s=true
    · rw [if_pos h]
      exact Evn.pos h (Evn.ret _)
    · rw [if_neg h]
      exact Evn.neg h (Evn.val (by rw [snocLen]) (ih trivial))
theorem get_r (l:List Att) (s:ByteArray) (hl:∀ x∈l,x.f0.size<20000) (hs:s.size<90000) (hn:l.length<1000000):Evn (fun k=>R04_Get.f k (l.map toAR) s) (atA l s):=by
  refine Evn.loop (g:=fun k i=>R04_Get.l0 k (l.map toAR) s i) l (by omega) (fun _=>True) (fun pre post=>atI (fun x=>sameB x.f0 s) pre.length post) ?_ ?_ l [] rfl trivial
  · intro _ hq
    exact Evn.step (fun k=>R04_Get.l0.eq_2 ..) (Evn.neg (by rw [List.length_map];exact hq) (Evn.ret _))
  · intro pre x post e _ hlt h0 hw hget hmem ih
    have hrd:rd_T114 (l.map toAR) (pre.length:Int)=toAR x:=by rw [e];exact getDm toAR pre x post _
    refine Evn.step (fun k=>R04_Get.l0.eq_2 ..) (Evn.pos (by rw [List.length_map];exact hlt) (Evn.pos h0 ?_))
    rw [hrd,hw,atI]
    refine Evn.bind (nameSame_r x.f0 s (by have:=hl x hmem;omega) hs) ?_
    by_cases h:sameB x.f0 s=true
    · rw [if_pos h]
      exact Evn.pos h (Evn.ret _)
    · rw [if_neg h]
      exact Evn.neg h (Evn.val (by rw [snocLen]) (ih trivial))
abbrev Typ:=S30
def hasB (l:List ByteArray) (s:ByteArray):Bool:=l.any (fun x=>sameB s x)
theorem any_at {α:Type} (p:α→Bool) (l:List α):decide (0≤atI p 0 l)=l.any p:=by
  rcases at_find p l 0 with ⟨h1,h2⟩|⟨pre,x,post,e,h1,h2⟩
  · rw [h1,Bool.eq_iff_iff,List.any_eq_true]
    constructor
    · intro h;cases h
    · rintro ⟨x,hx,h⟩
      exact absurd h (List.find?_eq_none.1 h2 x hx)
  · rw [h1,decide_eq_true (by omega)]
    exact (List.any_eq_true.2 ⟨x,by rw [e];simp,List.find?_some (p:=p) h2⟩).symm
theorem has_q (l:List ByteArray) (s:ByteArray) (hl:∀ x∈l,x.size<20000) (hs:s.size<90000):forest_has.f l s=some (hasB l s):=by
  unfold forest_has.f
  rw [idxK_at _ (fun x:ByteArray=>sameB s x) l 0 (fun x hx=>nameSame_q s x hs (by have:=hl x hx;omega)),Option.bind_some,any_at];rfl
def chainG:List ByteArray→List ByteArray→Bool
  | _,[]=>true
  | pre,x :: xs=>if checkN x=0 then (if hasB pre x=true then false else chainG (pre++[x]) xs) else false
def chainB (l:List ByteArray) (first:ByteArray):Bool:=if l.length<1 then false else if l.length>8 then false else if ((rdOf ByteArray.empty l 0).toList != first.toList)=true then false else chainG [] l
theorem nameCheck_ev (s:ByteArray) (hs:s.size<90000):Evn (fun k=>name_Check.f k s) (checkN s):=Evn.of1 (fun k=>check_name s (by omega) k)
theorem chain_l0 (l:List ByteArray) (hl:∀ x∈l,x.size<20000) (hb:l.length<100000):Evn (fun k=>forest_chain.l0 k l l (l.length:Int) 0) (chainG [] l):=by
  refine Evn.loop (g:=fun k i=>forest_chain.l0 k l l (l.length:Int) i) l (by omega) (fun _=>True) (fun pre post=>chainG pre post) ?_ ?_ l [] rfl trivial
  · intro _ hn
    exact Evn.step (fun k=>forest_chain.l0.eq_2 ..) (Evn.neg hn (Evn.ret _))
  · intro pre x post e _ hlt h0 hw hget hmem ih
    have hrd:rdOf ByteArray.empty l (pre.length:Int)=x:=hget _
    have htk:l.take ((pre.length:Int)).toNat=pre:=by rw [e,Int.toNat_natCast];exact List.take_left' rfl
    refine Evn.step (fun k=>forest_chain.l0.eq_2 ..) (Evn.pos hlt (Evn.pos h0 (Evn.pos hlt ?_)))
    rw [hrd,hw,htk,chainG]
    refine Evn.bind (nameCheck_ev x (by have:=hl x hmem;omega)) ?_
    by_cases h1:checkN x=0
    · rw [if_pos h1]
      refine Evn.pos h1 (Evn.pos (by omega) (Evn.bc (has_q pre x (fun y hy=>hl y (by rw [e];simp [hy])) (by have:=hl x hmem;omega)) ?_))
      by_cases h2:hasB pre x=true
      · rw [if_pos h2]
        exact Evn.pos h2 (Evn.ret _)
      · rw [if_neg h2]
        exact Evn.neg h2 (ih trivial)
    · rw [if_neg h1]
      exact Evn.neg h1 (Evn.ret _)
theorem chain_q (l:List ByteArray) (s:ByteArray) (hl:∀ x∈l,x.size<20000) (hb:l.length<100000):Evn (fun k=>forest_chain.f k l s) (chainB l s):=by
  unfold chainB
  have no:Evn (fun k=>forest_chain.j0 k l true) false:=Evn.step (fun k=>forest_chain.j0.eq_2 ..) (Evn.pos rfl (Evn.ret _))
  by_cases h1:l.length<1
  · rw [if_pos h1]
    exact Evn.pos (by omega) no
  · rw [if_neg h1]
    refine Evn.neg (by omega) ?_
    by_cases h2:l.length>8
    · rw [if_pos h2]
      exact Evn.pos (by omega) no
    · rw [if_neg h2]
      refine Evn.neg (by omega) (Evn.pos (by omega) ?_)
      by_cases h3:((rdOf ByteArray.empty l 0).toList != s.toList)=true
      · rw [if_pos h3,h3]
        exact no
      · rw [if_neg h3,Bool.eq_false_iff.2 h3]
        exact Evn.step (fun k=>forest_chain.j0.eq_2 ..) (Evn.neg (by decide) (chain_l0 l hl hb))
def idB (a b c:Int):Bool:=if a≥1 then (if a≤15 then (if b≥1 then (if b≤1099511627775 then (if c≥1 then decide (c≤1099511627775) else false) else false) else false) else false) else false
theorem count_q (n:Int):forest_count.f n=some (if n≥1 then decide (n≤1099511627775) else false):=by
  unfold forest_count.f
  split<;>rfl
theorem isID_q (a b c:Int):forest_IsID.f a b c=some (idB a b c):=by
  unfold forest_IsID.f idB
  rw [count_q,count_q,Option.bind_some,Option.bind_some]
  by_cases h1:a≥1
  · rw [if_pos h1,if_pos h1]
    by_cases h2:a≤15
    · rw [if_pos h2,if_pos h2]
      by_cases h3:b≥1
      · rw [if_pos h3,if_pos h3]
        by_cases h4:b≤1099511627775
        · rw [decide_eq_true h4,if_pos rfl,if_pos h4]
        · rw [decide_eq_false h4,if_neg (by decide),if_neg h4]
      · rw [if_neg h3,if_neg (by decide),if_neg h3]
    · rw [if_neg h2,if_neg h2]
  · rw [if_neg h1,if_neg h1]
def withinG (a b:List Fld):Bool:=a.all (fun x=>match findF b x.f0 with|none=>false|some y=>if y.f1=x.f1 then !(y.f2 != x.f2) else false)
theorem withinG_q (a b:List Fld) (hb:∀ x∈b,x.f0.size<20000) (ha:∀ x∈a,x.f0.size<20000):schema_Within.f a b=some (withinG a b):=by
  unfold schema_Within.f
  rw [idxK_at _ (fun x:Fld=>!(match findF b x.f0 with|none=>false|some y=>if y.f1=x.f1 then !(y.f2 != x.f2) else false)) a 0 (fun x hx=>by
    rw [schemaFind_q b x.f0 hb (by have:=ha x hx;omega),Option.bind_some]
    cases hq:findF b x.f0 with
    | none=>rfl
    | some y=>
      show some (if true=true then (if y.f1=x.f1 then y.f2 != x.f2 else true) else true)=_
      rw [if_pos rfl]
      by_cases h:y.f1=x.f1
      · rw [if_pos h];dsimp only;rw [if_pos h,Bool.not_not]
      · rw [if_neg h];dsimp only;rw [if_neg h];rfl),Option.bind_some,any_at]
  unfold withinG
  rw [List.all_eq_not_any_not]
structure OkT (t:Typ):Prop where
  n0:t.f0.size<20000
  n1:t.f1.size<20000
  o:∀ x∈t.f2,x.f0.size<20000
  ol:t.f2.length<300
  a:∀ x∈t.f3,x.f0.size<20000
  al:t.f3.length<300
  c:∀ x∈t.f4,x.size<20000
  cl:t.f4.length<300
def tailT (t:Typ):Bool:=if t.f4.length=1 then (if t.f1.toList=([]:List UInt8) then eqF t.f2 t.f3 else false) else (if t.f1.toList=(rdOf ByteArray.empty t.f4 1).toList then withinG t.f2 t.f3 else false)
def checkT (t:Typ):Bool:=if checkF t.f2=true then (if checkF t.f3=true then (if idB t.f5.f0 t.f5.f1 t.f5.f2=true then (if chainB t.f4 t.f0=true then tailT t else false) else false) else false) else false
theorem check_l0T (t:Typ) (h:OkT t) (hc:¬ t.f4.length<1):Evn (fun k=>forest_Check.j0 k false t.f0 t.f1 t.f2 t.f3 t.f4 t.f5.f0 t.f5.f1 t.f5.f2) (tailT t):=by
  refine Evn.step (fun k=>forest_Check.j0.eq_2 ..) (Evn.neg (by decide) ?_)
  unfold tailT
  by_cases h1:t.f4.length=1
  · rw [if_pos h1]
    refine Evn.pos (by omega) ?_
    by_cases h2:t.f1.toList=([]:List UInt8)
    · rw [if_pos h2]
      exact Evn.pos h2 (Evn.bind (eqFQ_ev t.f2 t.f3 (by have:=h.ol;omega)) (Evn.ret _))
    · rw [if_neg h2]
      exact Evn.neg h2 (Evn.ret _)
  · rw [if_neg h1]
    refine Evn.neg (by omega) (Evn.pos (by omega) ?_)
    by_cases h2:t.f1.toList=(rdOf ByteArray.empty t.f4 1).toList
    · exact Evn.val (if_pos h2).symm (Evn.pos h2 (Evn.bc (withinG_q t.f2 t.f3 h.a h.o) (Evn.ret _)))
    · exact Evn.val (if_neg h2).symm (Evn.neg h2 (Evn.ret _))
theorem chainB_pos {l:List ByteArray} {s:ByteArray} (h:chainB l s=true):¬ l.length<1:=by
  unfold chainB at h
  intro h1
  rw [if_pos h1] at h;cases h
theorem checkT_q (t:Typ) (h:OkT t):Evn (fun k=>forest_Check.f k t.f0 t.f1 t.f2 t.f3 t.f4 t.f5.f0 t.f5.f1 t.f5.f2) (checkT t):=by
  have no:Evn (fun k=>forest_Check.j0 k true t.f0 t.f1 t.f2 t.f3 t.f4 t.f5.f0 t.f5.f1 t.f5.f2) false:=Evn.step (fun k=>forest_Check.j0.eq_2 ..) (Evn.pos rfl (Evn.ret _))
  unfold checkT
  refine Evn.bind (check_q t.f2 h.o (by have:=h.ol;omega)) ?_
  by_cases h1:checkF t.f2=true
  · rw [if_pos h1]
    refine Evn.pos h1 (Evn.bind (check_q t.f3 h.a (by have:=h.al;omega)) ?_)
    by_cases h2:checkF t.f3=true
    · rw [if_pos h2]
      refine Evn.pos h2 (Evn.bc (isID_q _ _ _) ?_)
      by_cases h3:idB t.f5.f0 t.f5.f1 t.f5.f2=true
      · rw [if_pos h3]
        refine Evn.pos h3 (Evn.bind (chain_q t.f4 t.f0 h.c (by have:=h.cl;omega)) ?_)
        by_cases h4:chainB t.f4 t.f0=true
        · rw [if_pos h4,h4]
          exact check_l0T t h (chainB_pos h4)
        · rw [if_neg h4,Bool.eq_false_iff.2 h4]
          exact no
      · rw [if_neg h3]
        exact Evn.neg h3 no
    · rw [if_neg h2]
      exact Evn.neg h2 no
  · rw [if_neg h1]
    exact Evn.neg h1 no
def findT (l:List Typ) (s:ByteArray):Option Typ:=l.find? (fun x=>sameB x.f0 s)
def foundT:Option Typ→ByteArray × ByteArray × (List Fld) × (List Fld) × List ByteArray × Int × Int × Int × Bool
  | none=>(⟨#[]⟩,⟨#[]⟩,[],[],[],0,0,0,false)
  | some t=>(t.f0,t.f1,t.f2,t.f3,t.f4,t.f5.f0,t.f5.f1,t.f5.f2,true)
theorem own_q (t:Typ) (h:OkT t):forest_own.f t.f0 t.f1 t.f2 t.f3 t.f4 t.f5.f0 t.f5.f1 t.f5.f2=some (t.f0,t.f1,t.f2,t.f3,t.f4,t.f5.f0,t.f5.f1,t.f5.f2):=by
  have c1:api_Field_49.f t.f2=some t.f2:=if_pos (by have:=h.ol;omega)
  have c2:api_Field_49.f t.f3=some t.f3:=if_pos (by have:=h.al;omega)
  have c3:slices_Clone_string_string.f t.f4=some t.f4:=if_pos (by have:=h.cl;omega)
  unfold forest_own.f
  rw [c1,c2,c3];rfl
theorem findT_q (l:List Typ) (s:ByteArray) (hl:∀ t∈l,OkT t) (hs:s.size<90000):forest_Find.f l s=some (foundT (findT l s)):=by
  unfold forest_Find.f
  rw [idxK_at _ (fun x:Typ=>sameB x.f0 s) l 0 (fun x hx=>nameSame_q x.f0 s (by have:=(hl x hx).n0;omega) hs),Option.bind_some]
  unfold findT
  rcases at_find (fun x:Typ=>sameB x.f0 s) l 0 with ⟨h1,h2⟩|⟨pre,x,post,e,h1,h2⟩
  · rw [h1,h2,if_pos (by decide)];rfl
  · rw [Nat.zero_add] at h1
    have hrd:rd_T30 l (pre.length:Int)=x:=by rw [e];exact getDp pre x post _
    rw [h1,h2,if_neg (by omega),hrd,own_q x (hl x (by rw [e];simp))];rfl
def fewS {α:Type} (P:α→Bool):Nat→List α→Bool
  | _,[]=>true
  | i,x :: xs=>if i≤40 then (if P x=true then fewS P (i+1) xs else false) else false
theorem fewS_true {α:Type} (P:α→Bool):∀ (l:List α) (i:Nat),fewS P i l=true→(l=[]∨i+l.length≤41)∧∀ x∈l,P x=true
  | [],i,h=>⟨.inl rfl,fun x hx=>by cases hx⟩
  | x :: xs,i,h=>by
    rw [fewS] at h
    by_cases h1:i≤40
    · rw [if_pos h1] at h
      by_cases h2:P x=true
      · rw [if_pos h2] at h
        obtain ⟨h3,h4⟩:=fewS_true P xs (i+1) h
        refine ⟨.inr ?_,fun y hy=>?_⟩
        · rw [List.length_cons]
          rcases h3 with rfl|h3
          · show i+(0+1)≤41;omega
          · omega
        · rcases List.mem_cons.1 hy with rfl|hy
          · exact h2
          · exact h4 y hy
      · rw [if_neg h2] at h;cases h
    · rw [if_neg h1] at h;cases h
def fewF (l:List Fld):Bool:=fewS (fun x=>decide (x.f0.size≤200)) 0 l
theorem fewF_ev (l:List Fld):Evn (fun k=>L04_Few.f k l) (fewF l):=by
  refine Evn.loopS (g:=fun k i=>L04_Few.l0 k l i) l (fun _=>True) (fun pre post=>fewS (fun x=>decide (x.f0.size≤200)) pre.length post) ?_ ?_ l [] rfl trivial
  · intro _ hn
    exact Evn.step (fun k=>L04_Few.l0.eq_2 ..) (Evn.neg hn (Evn.ret _))
  · intro pre x post e _ hlt h0 hw hget hmem ih
    have hrd:rd_T86 l (pre.length:Int)=x:=hget _
    refine Evn.step (fun k=>L04_Few.l0.eq_2 ..) (Evn.pos hlt ?_)
    rw [hrd,fewS]
    by_cases h1:pre.length≤40
    · rw [if_pos h1,hw (by omega)]
      refine Evn.neg (by omega) (Evn.pos h0 ?_)
      by_cases h2:x.f0.size≤200
      · rw [if_pos (decide_eq_true h2)]
        refine Evn.neg (by omega) ?_
        exact Evn.val (by rw [snocLen]) (ih trivial)
      · rw [if_neg (by rw [decide_eq_false h2];decide)]
        exact Evn.pos (by omega) (Evn.ret _)
    · rw [if_neg h1]
      exact Evn.pos (by omega) (Evn.ret _)
theorem fewF_true (l:List Fld) (h:fewF l=true):l.length≤41∧∀ x∈l,x.f0.size≤200:=by
  obtain ⟨h1,h2⟩:=fewS_true _ l 0 h
  refine ⟨?_,fun x hx=>of_decide_eq_true (h2 x hx)⟩
  rcases h1 with rfl|h1
  · exact Nat.zero_le _
  · omega
theorem refsF_ev (l:List Fld) (hl:l.length<1000000):Evn (fun k=>L04_Refs.f k l) (l.map toR):=by
  have h:∀ (post pre:List Fld),l=pre++post→True→Evn (fun k=>L04_Refs.l0 k l (pre.map toR) (pre.length:Int)) (l.map toR):=by
    intro post
    induction post with
    | nil=>
      intro pre e _
      rw [List.append_nil] at e
      subst e
      exact Evn.step (fun k=>L04_Refs.l0.eq_2 ..) (Evn.neg (by omega) (Evn.ret _))
    | cons x post ih=>
      intro pre e _
      have hlt:(pre.length:Int)<(l.length:Int):=by rw [e];exact ltp pre x post
      have hrd:rd_T86 l (pre.length:Int)=x:=by rw [e];exact getDp pre x post _
      have:=ih (pre++[x]) (by rw [e,List.append_assoc];rfl) trivial
      rw [List.map_append] at this
      refine Evn.step (fun k=>L04_Refs.l0.eq_2 ..) (Evn.pos hlt (Evn.pos (Int.natCast_nonneg _) (Evn.pos (by rw [List.length_map];omega) ?_)))
      rw [hrd,w1p pre x (by omega)]
      exact this
  exact h l [] rfl trivial
def oneB (t:Typ):Bool:=if t.f0.size>200 then false else if t.f1.size>200 then false else if t.f4.length>12 then false else if t.f4.all (fun x=>decide (x.size≤200))=true then (if fewF t.f2=true then fewF t.f3 else false) else false
theorem one_l0 (t:Typ) (hc:t.f4.length<100000):Evn (fun k=>L05_one.l0 k 0 t.f0 t.f1 t.f2 t.f3 t.f4 t.f5.f0 t.f5.f1 t.f5.f2) (if t.f4.all (fun x=>decide (x.size≤200))=true then (if fewF t.f2=true then fewF t.f3 else false) else false):=by
  refine Evn.loop (g:=fun k i=>L05_one.l0 k i t.f0 t.f1 t.f2 t.f3 t.f4 t.f5.f0 t.f5.f1 t.f5.f2) t.f4 (by omega) (fun _=>True) (fun pre post=>if post.all (fun x=>decide (x.size≤200))=true then (if fewF t.f2=true then fewF t.f3 else false) else false) ?_ ?_ t.f4 [] rfl trivial
  · intro _ hn
    refine Evn.step (fun k=>L05_one.l0.eq_2 ..) (Evn.neg hn (Evn.val (if_pos rfl).symm (Evn.bind (fewF_ev t.f2) ?_)))
    by_cases h:fewF t.f2=true
    · exact Evn.val (if_pos h).symm (Evn.pos h (Evn.bind (fewF_ev t.f3) (Evn.ret _)))
    · exact Evn.val (if_neg h).symm (Evn.neg h (Evn.ret _))
  · intro pre x post e _ hlt h0 hw hget hmem ih
    have hrd:rdOf ByteArray.empty t.f4 (pre.length:Int)=x:=hget _
    refine Evn.step (fun k=>L05_one.l0.eq_2 ..) (Evn.pos hlt (Evn.pos h0 ?_))
    rw [hrd,hw,List.all_cons]
    by_cases h:x.size≤200
    · rw [decide_eq_true h,Bool.true_and]
      exact Evn.neg (by omega) (ih trivial)
    · rw [decide_eq_false h,Bool.false_and]
      exact Evn.val (if_neg (by decide)).symm (Evn.pos (by omega) (Evn.ret _))
theorem one_ev (t:Typ):Evn (fun k=>L05_one.f k t.f0 t.f1 t.f2 t.f3 t.f4 t.f5.f0 t.f5.f1 t.f5.f2) (oneB t):=by
  have no:Evn (fun k=>L05_one.j0 k true t.f0 t.f1 t.f2 t.f3 t.f4 t.f5.f0 t.f5.f1 t.f5.f2) false:=Evn.step (fun k=>L05_one.j0.eq_2 ..) (Evn.pos rfl (Evn.ret _))
  unfold oneB
  by_cases h1:t.f0.size>200
  · exact Evn.val (if_pos h1).symm (Evn.pos (by omega) no)
  refine Evn.val (if_neg h1).symm (Evn.neg (by omega) ?_)
  by_cases h2:t.f1.size>200
  · exact Evn.val (if_pos h2).symm (Evn.pos (by omega) no)
  refine Evn.val (if_neg h2).symm (Evn.neg (by omega) ?_)
  by_cases h3:t.f4.length>12
  · rw [decide_eq_true (show (t.f4.length:Int)>12 by omega)]
    exact Evn.val (if_pos h3).symm no
  · rw [decide_eq_false (show ¬ (t.f4.length:Int)>12 by omega)]
    exact Evn.val (if_neg h3).symm (Evn.step (fun k=>L05_one.j0.eq_2 ..) (Evn.neg (by decide) (one_l0 t (by omega))))
theorem one_ok (t:Typ) (h:oneB t=true):OkT t:=by
  unfold oneB at h
  by_cases h1:t.f0.size>200
  · rw [if_pos h1] at h;cases h
  rw [if_neg h1] at h
  by_cases h2:t.f1.size>200
  · rw [if_pos h2] at h;cases h
  rw [if_neg h2] at h
  by_cases h3:t.f4.length>12
  · rw [if_pos h3] at h;cases h
  rw [if_neg h3] at h
  by_cases h4:t.f4.all (fun x=>decide (x.size≤200))=true
  · rw [if_pos h4] at h
    by_cases h5:fewF t.f2=true
    · rw [if_pos h5] at h
      obtain ⟨a1,a2⟩:=fewF_true _ h5
      obtain ⟨b1,b2⟩:=fewF_true _ h
      exact ⟨by omega,by omega,fun x hx=>by have:=a2 x hx;omega,by omega,fun x hx=>by have:=b2 x hx;omega,by omega,fun x hx=>by have:=of_decide_eq_true (List.all_eq_true.1 h4 x hx);omega,by omega⟩
    · rw [if_neg h5] at h;cases h
  · rw [if_neg h4] at h;cases h
def fewT:Nat→List Typ→Bool
  | _,[]=>true
  | i,x :: xs=>if i≤25 then (if oneB x=true then fewT (i+1) xs else false) else false
theorem fewT_ev (l:List Typ):Evn (fun k=>L05_Few.f k l) (fewT 0 l):=by
  refine Evn.loopS (g:=fun k i=>L05_Few.l0 k l i) l (fun _=>True) (fun pre post=>fewT pre.length post) ?_ ?_ l [] rfl trivial
  · intro _ hn
    exact Evn.step (fun k=>L05_Few.l0.eq_2 ..) (Evn.neg hn (Evn.ret _))
  · intro pre x post e _ hlt h0 hw hget hmem ih
    have hrd:rd_T30 l (pre.length:Int)=x:=hget _
    refine Evn.step (fun k=>L05_Few.l0.eq_2 ..) (Evn.pos hlt ?_)
    rw [hrd,fewT]
    by_cases h1:pre.length≤25
    · rw [if_pos h1,hw (by omega)]
      refine Evn.neg (by omega) (Evn.pos h0 (Evn.bind (one_ev x) ?_))
      by_cases h2:oneB x=true
      · rw [if_pos h2]
        refine Evn.pos h2 ?_
        exact Evn.val (by rw [snocLen]) (ih trivial)
      · rw [if_neg h2]
        exact Evn.neg h2 (Evn.ret _)
    · rw [if_neg h1]
      exact Evn.pos (by omega) (Evn.ret _)
theorem fewT_true:∀ (l:List Typ) (i:Nat),fewT i l=true→(l=[]∨i+l.length≤26)∧∀ x∈l,OkT x
  | [],i,h=>⟨.inl rfl,fun x hx=>by cases hx⟩
  | x :: xs,i,h=>by
    rw [fewT] at h
    by_cases h1:i≤25
    · rw [if_pos h1] at h
      by_cases h2:oneB x=true
      · rw [if_pos h2] at h
        obtain ⟨h3,h4⟩:=fewT_true xs (i+1) h
        refine ⟨.inr ?_,fun y hy=>?_⟩
        · rw [List.length_cons]
          rcases h3 with rfl|h3
          · show i+(0+1)≤26;omega
          · omega
        · rcases List.mem_cons.1 hy with rfl|hy
          · exact one_ok _ h2
          · exact h4 y hy
      · rw [if_neg h2] at h;cases h
    · rw [if_neg h1] at h;cases h
theorem fewT_len (l:List Typ) (h:fewT 0 l=true):l.length≤26:=by
  rcases (fewT_true l 0 h).1 with rfl|h
  · exact Nat.zero_le _
  · omega
section
variable {α:Type}
theorem swpL_app (P A M R:List α) (x y:α) (i j:Nat) (hi:i=P.length) (hj:j=P.length+1+M.length):swpL (P++x :: (M++y :: R)) i j=P++y :: (M++x :: R):=by
  subst hi hj
  have h1:(P++x :: (M++y :: R))[P.length]? = some x:=by simp
  have h2:(P++x :: (M++y :: R))[P.length+1+M.length]? = some y:=by
    rw [List.getElem?_append_right (by omega),show P.length+1+M.length-P.length=M.length+1 by omega,List.getElem?_cons_succ];simp
  rw [swpL_at h1 h2]
  rw [List.set_append_right _ _ (Nat.le_refl _),Nat.sub_self,List.set_cons_zero,List.set_append_right _ _ (by omega),show P.length+1+M.length-P.length=M.length+1 by omega,List.set_cons_succ,List.set_append_right _ _ (Nat.le_refl _),Nat.sub_self,List.set_cons_zero]
theorem swapRL_app:∀ (X P M Y S:List α) (a b n:Nat),n=X.length→n=Y.length→a=P.length→b=P.length+X.length+M.length→swapRL n (P++X++M++Y++S) a b=P++Y++M++X++S
  | [],P,M,Y,S,a,b,n,hx,hy,ha,hb=>by
    subst hx
    obtain rfl:=List.eq_nil_of_length_eq_zero hy.symm
    rfl
  | x :: X,P,M,[],S,a,b,n,hx,hy,ha,hb=>by simp at hx hy;omega
  | x :: X,P,M,y :: Y,S,a,b,n,hx,hy,ha,hb=>by
    rw [List.length_cons] at hx hy hb
    subst hx
    rw [swapRL]
    have e1:P++(x :: X)++M++(y :: Y)++S=P++x :: ((X++M)++y :: (Y++S)):=by simp
    have e2:swpL (P++x :: ((X++M)++y :: (Y++S))) a b=P++y :: ((X++M)++x :: (Y++S)):=swpL_app P [] (X++M) (Y++S) x y a b ha (by rw [List.length_append];omega)
    have e3:P++y :: ((X++M)++x :: (Y++S))=(P++[y])++X++(M++[x])++Y++S:=by simp
    rw [e1,e2,e3,swapRL_app X (P++[y]) (M++[x]) Y S (a+1) (b+1) X.length rfl (by omega) (by simp;omega) (by simp;omega)]
    simp
theorem rotGo_app:∀ (f:Nat) (P X Y S:List α) (m i j:Nat),i=X.length→j=Y.length→m=P.length+X.length→0<i→0<j→i+j≤f→rotGo f (P++X++Y++S) m i j=P++Y++X++S
  | 0,P,X,Y,S,m,i,j,hi,hj,hm,i0,j0,hf=>by omega
  | f+1,P,X,Y,S,m,i,j,hi,hj,hm,i0,j0,hf=>by
    rw [rotGo]
    by_cases h1:i=j
    · rw [if_pos h1]
      have h:=swapRL_app X P [] Y S (m-i) m i hi (by omega) (by omega) (by simp;omega)
      simpa using h
    rw [if_neg h1]
    by_cases h2:j<i
    · rw [if_pos h2]
      have hx:=List.take_append_drop j X
      have l1:(X.take j).length=j:=by rw [List.length_take];omega
      have l2:(X.drop j).length=i-j:=by rw [List.length_drop];omega
      generalize X.take j=X1 at hx l1
      generalize X.drop j=X2 at hx l2
      subst hx
      have h:=swapRL_app X1 P X2 Y S (m-i) m j l1.symm hj (by omega) (by rw [hm,List.length_append];omega)
      have e1:P++(X1++X2)++Y++S=P++X1++X2++Y++S:=by simp
      have e2:P++Y++X2++X1++S=(P++Y)++X2++X1++S:=by simp
      rw [e1,h,e2,rotGo_app f (P++Y) X2 X1 S m (i-j) j l2.symm l1.symm (by rw [List.length_append] at hm ⊢;omega) (by omega) j0 (by omega)]
      simp
    · rw [if_neg h2]
      have hy:=List.take_append_drop (j-i) Y
      have l1:(Y.take (j-i)).length=j-i:=by rw [List.length_take];omega
      have l2:(Y.drop (j-i)).length=i:=by rw [List.length_drop];omega
      generalize Y.take (j-i)=Y1 at hy l1
      generalize Y.drop (j-i)=Y2 at hy l2
      subst hy
      have h:=swapRL_app X P Y1 Y2 S (m-i) (m+j-i) i hi l2.symm (by omega) (by omega)
      have e1:P++X++(Y1++Y2)++S=P++X++Y1++Y2++S:=by simp
      have e2:P++Y2++Y1++X++S=P++Y2++Y1++(X++S):=by simp
      rw [e1,h,e2,rotGo_app f P Y2 Y1 (X++S) m i (j-i) l2.symm l1.symm (by omega) i0 (by omega) (by omega)]
      simp
theorem upL_app:∀ (B P R:List α) (x:α) (n k:Nat),n=B.length→k=P.length→upL n (P++x :: (B++R)) k=P++B++x :: R
  | [],P,R,x,n,k,hn,hk=>by subst hn;simp [upL]
  | y :: B,P,R,x,n,k,hn,hk=>by
    rw [List.length_cons] at hn
    subst hn
    rw [upL]
    have e:=swpL_app P [] [] (B++R) x y k (k+1) hk (by simp;omega)
    simp only [List.nil_append] at e
    rw [List.cons_append,e]
    have e2:P++y :: x :: (B++R)=(P++[y])++x :: (B++R):=by simp
    rw [e2,upL_app B (P++[y]) R x B.length (k+1) rfl (by simp;omega)]
    simp
theorem dnL_app:∀ (n:Nat) (P B R:List α) (x:α) (k:Nat),n=B.length→k=P.length+B.length→dnL n (P++B++x :: R) k=P++x :: (B++R)
  | 0,P,B,R,x,k,hn,hk=>by
    obtain rfl:=List.eq_nil_of_length_eq_zero hn.symm
    simp [dnL]
  | n+1,P,B,R,x,k,hn,hk=>by
    obtain ⟨C,y,rfl⟩:∃ C y,B=C++[y]:=⟨B.dropLast,B.getLast (by intro e;simp [e] at hn),(List.dropLast_concat_getLast _).symm⟩
    rw [List.length_append,List.length_singleton] at hn hk
    rw [dnL]
    have e:=swpL_app (P++C) [] [] R y x (k-1) k (by rw [List.length_append];omega) (by simp;omega)
    have hs:swpL (P++C++y :: x :: R) k (k-1)=swpL (P++C++y :: x :: R) (k-1) k:=by
      have h1:(P++C++y :: x :: R)[k-1]? = some y:=by rw [List.getElem?_append_right (by simp;omega)];simp;rw [show k-1-(P.length+C.length)=0 by omega];rfl
      have h2:(P++C++y :: x :: R)[k]? = some x:=by rw [List.getElem?_append_right (by simp;omega)];simp;rw [show k-(P.length+C.length)=1 by omega];rfl
      rw [swpL_at h1 h2,swpL_at h2 h1,List.set_comm _ _ (by omega)]
    simp only [List.nil_append] at e
    have e1:P++(C++[y])++x :: R=P++C++y :: x :: R:=by simp
    have e2:P++C++x :: y :: R=P++C++x :: ([y]++R):=by simp
    rw [e1,hs,e,e2,dnL_app n P C ([y]++R) x (k-1) (by omega) (by omega)]
    simp
theorem bsL_spec (p:Nat→Bool) (i0 j0:Nat):∀ (f i j:Nat),i0≤i→i≤j→j≤j0→j-i≤f→(i=i0∨p (i-1)=true)→(j=j0∨p j=false)→i0≤bsL p f i j∧bsL p f i j≤j0∧(bsL p f i j=i0∨p (bsL p f i j-1)=true)∧(bsL p f i j=j0∨p (bsL p f i j)=false)
  | 0,i,j,h0,h1,h2,h3,h4,h5=>by
    obtain rfl:i=j:=by omega
    exact ⟨h0,h2,h4,h5⟩
  | f+1,i,j,h0,h1,h2,h3,h4,h5=>by
    rw [bsL]
    by_cases hij:i<j
    · rw [if_pos hij]
      by_cases hp:p ((i+j) / 2)=true
      · rw [if_pos hp]
        exact bsL_spec p i0 j0 f _ j (by omega) (by omega) h2 (by omega) (.inr hp) h5
      · rw [if_neg hp]
        exact bsL_spec p i0 j0 f i _ h0 (by omega) (by omega) (by omega) h4 (.inr (Bool.eq_false_iff.2 hp))
    · rw [if_neg hij]
      obtain rfl:i=j:=by omega
      exact ⟨h0,h2,h4,h5⟩
def leC (cf:α→α→Int) (x y:α):Prop:=¬ cf y x<0
variable {cf:α→α→Int}
theorem insIn_app (htr:∀ x y z,leC cf x y→leC cf y z→leC cf x z) (has:∀ x y,cf x y<0→leC cf x y):∀ (n:Nat) (P A R:List α) (x:α) (a j:Nat),n=A.length→a=P.length→j=a+n→List.Pairwise (leC cf) A→∃ C,insIn cf a j (P++A++x :: R)=P++C++R∧C.Perm (A++[x])∧List.Pairwise (leC cf) C
  | 0,P,A,R,x,a,j,hn,ha,hj,hA=>by
    obtain rfl:=List.eq_nil_of_length_eq_zero hn.symm
    refine ⟨[x],?_,by simp,List.pairwise_singleton _ _⟩
    cases j with
    | zero=>simp [insIn]
    | succ j=>rw [insIn,if_neg (by omega)];simp
  | n+1,P,A,R,x,a,j,hn,ha,hj,hA=>by
    obtain ⟨C,y,rfl⟩:∃ C y,A=C++[y]:=⟨A.dropLast,A.getLast (by intro e;simp [e] at hn),(List.dropLast_concat_getLast _).symm⟩
    rw [List.length_append,List.length_singleton] at hn
    obtain ⟨p1,_,p3⟩:=List.pairwise_append.1 hA
    have e1:P++(C++[y])++x :: R=P++C++y :: x :: R:=by simp
    have hy:(P++C++y :: x :: R)[a+n]? = some y:=by rw [List.getElem?_append_right (by simp;omega)];simp;rw [show a+n-(P.length+C.length)=0 by omega];rfl
    have hx:(P++C++y :: x :: R)[a+n+1]? = some x:=by rw [List.getElem?_append_right (by simp;omega)];simp;rw [show a+n+1-(P.length+C.length)=1 by omega];rfl
    rw [show j=(a+n)+1 by omega,insIn,if_pos (by omega),e1,ltAt_eq hx hy]
    by_cases hc:cf x y<0
    · rw [decide_eq_true hc,if_pos rfl]
      have hs:swpL (P++C++y :: x :: R) (a+n+1) (a+n)=P++C++x :: y :: R:=by
        rw [swpL_at hx hy,← List.set_comm _ _ (by omega),← swpL_at hy hx]
        have e:=swpL_app (P++C) [] [] R y x (a+n) (a+n+1) (by simp;omega) (by simp;omega)
        simpa using e
      rw [hs]
      obtain ⟨D,d1,d2,d3⟩:=insIn_app htr has n P C (y :: R) x a (a+n) (by omega) ha rfl p1
      refine ⟨D++[y],by rw [d1];simp,?_,List.pairwise_append.2 ⟨d3,List.pairwise_singleton _ _,fun u hu v hv=>?_⟩⟩
      · refine (d2.append_right [y]).trans ?_
        simp only [List.append_assoc]
        exact List.Perm.append_left C (List.Perm.swap y x [])
      · obtain rfl:=List.mem_singleton.1 hv
        have:=d2.mem_iff.1 hu
        rcases List.mem_append.1 this with h|h
        · exact p3 u h _ (List.mem_singleton.2 rfl)
        · obtain rfl:=List.mem_singleton.1 h
          exact has _ _ hc
    · rw [decide_eq_false hc,if_neg (by decide)]
      refine ⟨C++[y]++[x],by simp,List.Perm.refl _,List.pairwise_append.2 ⟨hA,List.pairwise_singleton _ _,fun u hu v hv=>?_⟩⟩
      obtain rfl:=List.mem_singleton.1 hv
      rcases List.mem_append.1 hu with h|h
      · exact htr u y _ (p3 u h _ (List.mem_singleton.2 rfl)) hc
      · obtain rfl:=List.mem_singleton.1 h
        exact hc
theorem insOut_app (htr:∀ x y z,leC cf x y→leC cf y z→leC cf x z) (has:∀ x y,cf x y<0→leC cf x y):∀ (n:Nat) (P A B R:List α) (a i:Nat),n=B.length→a=P.length→i=a+A.length→List.Pairwise (leC cf) A→∃ C,insOut cf a n (P++A++B++R) i=P++C++R∧C.Perm (A++B)∧List.Pairwise (leC cf) C
  | 0,P,A,B,R,a,i,hn,ha,hi,hA=>by
    obtain rfl:=List.eq_nil_of_length_eq_zero hn.symm
    exact ⟨A,by simp [insOut],by simp,hA⟩
  | n+1,P,A,[],R,a,i,hn,ha,hi,hA=>by simp at hn
  | n+1,P,A,x :: B,R,a,i,hn,ha,hi,hA=>by
    rw [List.length_cons] at hn
    rw [insOut]
    obtain ⟨C,c1,c2,c3⟩:=insIn_app htr has A.length P A (B++R) x a i rfl ha hi hA
    have e1:P++A++(x :: B)++R=P++A++x :: (B++R):=by simp
    rw [e1,c1]
    have e2:P++C++(B++R)=P++C++B++R:=by simp
    have hl:=c2.length_eq
    rw [List.length_append,List.length_singleton] at hl
    obtain ⟨D,d1,d2,d3⟩:=insOut_app htr has n P C B R a (i+1) (by omega) ha (by omega) c3
    refine ⟨D,by rw [e2,d1],d2.trans ?_,d3⟩
    have:=c2.append_right B
    simpa using this
set_option maxHeartbeats 4000000 in
theorem symL_app (htr:∀ x y z,leC cf x y→leC cf y z→leC cf x z) (has:∀ x y,cf x y<0→leC cf x y):∀ (f:Nat) (P A B S:List α) (a m b:Nat),a=P.length→m=a+A.length→b=m+B.length→0<A.length→0<B.length→b-a≤f→List.Pairwise (leC cf) A→List.Pairwise (leC cf) B→∃ C,symL cf f (P++A++B++S) a m b=P++C++S∧C.Perm (A++B)∧List.Pairwise (leC cf) C
  | 0,P,A,B,S,a,m,b,ha,hm,hb,hA0,hB0,hf,hA,hB=>by omega
  | f+1,P,A,B,S,a,m,b,ha,hm,hb,hA0,hB0,hf,hA,hB=>by
    have IH:=symL_app htr has f
    have gA:∀ k,a≤k→k<m→(P++A++B++S)[k]? = A[k-a]?:=fun k h1 h2=>by
      rw [List.append_assoc,List.append_assoc,List.getElem?_append_right (by omega),List.getElem?_append_left (by omega),← ha]
    have gB:∀ k,m≤k→k<b→(P++A++B++S)[k]? = B[k-m]?:=fun k h1 h2=>by
      rw [List.append_assoc,List.getElem?_append_right (by rw [List.length_append];omega),List.getElem?_append_left (by rw [List.length_append];omega),List.length_append,show P.length+A.length=m by omega]
    rw [symL]
    by_cases h1:m=a+1
    · rw [if_pos h1]
      obtain ⟨x,rfl⟩:∃ x,A=[x]:=List.length_eq_one_iff.1 (by omega)
      have hs:=bsL_spec (fun h=>ltAt cf (P++[x]++B++S) h a) m b (b-m) m b (Nat.le_refl _) (by omega) (Nat.le_refl _) (by omega) (.inl rfl) (.inl rfl)
      generalize bsL (fun h=>ltAt cf (P++[x]++B++S) h a) (b-m) m b=i at hs ⊢
      obtain ⟨s1,s2,s3,s4⟩:=hs
      (try dsimp only at s3 s4)
      have hB':=List.take_append_drop (i-m) B
      have l1:(B.take (i-m)).length=i-m:=by rw [List.length_take];omega
      have l2:(B.drop (i-m)).length=b-i:=by rw [List.length_drop];omega
      generalize B.take (i-m)=B1 at hB' l1
      generalize B.drop (i-m)=B2 at hB' l2
      subst hB'
      have gx:=gA a (Nat.le_refl _) (by omega)
      rw [Nat.sub_self] at gx
      obtain ⟨p1,p2,p3⟩:=List.pairwise_append.1 hB
      have e1:P++[x]++(B1++B2)++S=P++x :: (B1++(B2++S)):=by simp
      have hlast:∀ u∈B1,leC cf u x:=fun u hu=>by
        have hne:0<B1.length:=List.length_pos_of_mem hu
        rcases s3 with s3|s3
        · omega
        have hl:(B1++B2)[i-1-m]? = some (B1[i-1-m]'(by omega)):=by rw [List.getElem?_append_left (by omega),List.getElem?_eq_getElem]
        rw [ltAt_eq ((gB (i-1) (by omega) (by omega)).trans hl) gx] at s3
        have h9:=has _ _ (of_decide_eq_true s3)
        obtain ⟨k,hk,rfl⟩:=List.mem_iff_getElem.1 hu
        by_cases hke:k=i-1-m
        · subst hke;exact h9
        · exact htr _ _ _ (List.pairwise_iff_getElem.1 p1 k (i-1-m) hk (by omega) (by omega)) h9
      have hfirst:∀ v∈B2,leC cf x v:=fun v hv=>by
        have hne:0<B2.length:=List.length_pos_of_mem hv
        rcases s4 with s4|s4
        · omega
        have hl:(B1++B2)[i-m]? = some (B2[0]'hne):=by rw [List.getElem?_append_right (by omega),l1,Nat.sub_self,List.getElem?_eq_getElem]
        rw [ltAt_eq ((gB i (by omega) (by omega)).trans hl) gx] at s4
        have h9:leC cf x (B2[0]'hne):=of_decide_eq_false s4
        obtain ⟨k,hk,rfl⟩:=List.mem_iff_getElem.1 hv
        by_cases hke:k=0
        · subst hke;exact h9
        · exact htr _ _ _ h9 (List.pairwise_iff_getElem.1 p2 0 k hne hk (by omega))
      refine ⟨B1++x :: B2,?_,?_,?_⟩
      · rw [e1,upL_app B1 P (B2++S) x (i-1-a) a (by omega) ha];simp
      · exact List.perm_middle
      · refine List.pairwise_append.2 ⟨p1,List.pairwise_cons.2 ⟨hfirst,p2⟩,fun u hu v hv=>?_⟩
        rcases List.mem_cons.1 hv with rfl|hv
        · exact hlast u hu
        · exact p3 u hu v hv
    rw [if_neg h1]
    by_cases h2:b=m+1
    · rw [if_pos h2]
      obtain ⟨x,rfl⟩:∃ x,B=[x]:=List.length_eq_one_iff.1 (by omega)
      have hs:=bsL_spec (fun h=>!(ltAt cf (P++A++[x]++S) m h)) a m (m-a) a m (Nat.le_refl _) (by omega) (Nat.le_refl _) (by omega) (.inl rfl) (.inl rfl)
      generalize bsL (fun h=>!(ltAt cf (P++A++[x]++S) m h)) (m-a) a m=i at hs ⊢
      obtain ⟨s1,s2,s3,s4⟩:=hs
      (try dsimp only at s3 s4)
      have hA':=List.take_append_drop (i-a) A
      have l1:(A.take (i-a)).length=i-a:=by rw [List.length_take];omega
      have l2:(A.drop (i-a)).length=m-i:=by rw [List.length_drop];omega
      generalize A.take (i-a)=A1 at hA' l1
      generalize A.drop (i-a)=A2 at hA' l2
      subst hA'
      have gx:=gB m (Nat.le_refl _) (by omega)
      rw [Nat.sub_self] at gx
      obtain ⟨p1,p2,p3⟩:=List.pairwise_append.1 hA
      have e1:P++(A1++A2)++[x]++S=(P++A1)++A2++x :: S:=by simp
      have hlast:∀ u∈A1,leC cf u x:=fun u hu=>by
        have hne:0<A1.length:=List.length_pos_of_mem hu
        rcases s3 with s3|s3
        · omega
        have hl:(A1++A2)[i-1-a]? = some (A1[i-1-a]'(by omega)):=by rw [List.getElem?_append_left (by omega),List.getElem?_eq_getElem]
        rw [ltAt_eq gx ((gA (i-1) (by omega) (by omega)).trans hl),Bool.not_eq_true'] at s3
        have h9:leC cf (A1[i-1-a]'(by omega)) x:=of_decide_eq_false s3
        obtain ⟨k,hk,rfl⟩:=List.mem_iff_getElem.1 hu
        by_cases hke:k=i-1-a
        · subst hke;exact h9
        · exact htr _ _ _ (List.pairwise_iff_getElem.1 p1 k (i-1-a) hk (by omega) (by omega)) h9
      have hfirst:∀ v∈A2,leC cf x v:=fun v hv=>by
        have hne:0<A2.length:=List.length_pos_of_mem hv
        rcases s4 with s4|s4
        · omega
        have hl:(A1++A2)[i-a]? = some (A2[0]'hne):=by rw [List.getElem?_append_right (by omega),l1,Nat.sub_self,List.getElem?_eq_getElem]
        rw [ltAt_eq gx ((gA i (by omega) (by omega)).trans hl),Bool.not_eq_false'] at s4
        have h9:leC cf x (A2[0]'hne):=has _ _ (of_decide_eq_true s4)
        obtain ⟨k,hk,rfl⟩:=List.mem_iff_getElem.1 hv
        by_cases hke:k=0
        · subst hke;exact h9
        · exact htr _ _ _ h9 (List.pairwise_iff_getElem.1 p2 0 k hne hk (by omega))
      refine ⟨A1++x :: A2,?_,?_,?_⟩
      · rw [e1,dnL_app (m-i) (P++A1) A2 S x m (by omega) (by simp at hm ⊢;omega)];simp
      · refine List.perm_middle.trans ?_
        have:=List.perm_append_comm (l₁:=[x]) (l₂:=A1++A2)
        simpa using this
      · refine List.pairwise_append.2 ⟨p1,List.pairwise_cons.2 ⟨hfirst,p2⟩,fun u hu v hv=>?_⟩
        rcases List.mem_cons.1 hv with rfl|hv
        · exact hlast u hu
        · exact p3 u hu v hv
    rw [if_neg h2]
    unfold symBig symAt
    have hs:=bsL_spec (fun h=>!(ltAt cf (P++A++B++S) ((a+b) / 2+m-1-h) h)) (symS0 a m b) (symR0 a m b) (symR0 a m b-symS0 a m b) (symS0 a m b) (symR0 a m b) (Nat.le_refl _) (by unfold symS0 symR0;split<;>omega) (Nat.le_refl _) (by omega) (.inl rfl) (.inl rfl)
    generalize bsL (fun h=>!(ltAt cf (P++A++B++S) ((a+b) / 2+m-1-h) h)) (symR0 a m b-symS0 a m b) (symS0 a m b) (symR0 a m b)=s at hs ⊢
    obtain ⟨s1,s2,s3,s4⟩:=hs
    (try dsimp only at s3 s4)
    obtain ⟨mid,hmid⟩:∃ mid,mid=(a+b) / 2:=⟨_,rfl⟩
    rw [← hmid] at s3 s4 ⊢
    obtain ⟨e,he⟩:∃ e,e=mid+m-s:=⟨_,rfl⟩
    rw [← he]
    have q0:a≤symS0 a m b∧symR0 a m b≤m∧symR0 a m b≤mid∧mid+m-b≤symS0 a m b∧(symS0 a m b=a∨symS0 a m b=mid+m-b)∧(symR0 a m b=m∨symR0 a m b=mid):=by
      unfold symS0 symR0
      rw [← hmid]
      split<;>omega
    obtain ⟨q1,q2,q2b,q3,q4,q5⟩:=q0
    have hA':=List.take_append_drop (s-a) A
    have l1:(A.take (s-a)).length=s-a:=by rw [List.length_take];omega
    have l2:(A.drop (s-a)).length=m-s:=by rw [List.length_drop];omega
    have hB':=List.take_append_drop (e-m) B
    have l3:(B.take (e-m)).length=e-m:=by rw [List.length_take];omega
    have l4:(B.drop (e-m)).length=b-e:=by rw [List.length_drop];omega
    generalize A.take (s-a)=A1 at hA' l1
    generalize A.drop (s-a)=A2 at hA' l2
    generalize B.take (e-m)=B1 at hB' l3
    generalize B.drop (e-m)=B2 at hB' l4
    subst hA' hB'
    obtain ⟨a1,a2,a3⟩:=List.pairwise_append.1 hA
    obtain ⟨b1,b2,b3⟩:=List.pairwise_append.1 hB
    have hrot:(if s<m∧m<e then rotGo (e-s) (P++(A1++A2)++(B1++B2)++S) m (m-s) (e-m) else P++(A1++A2)++(B1++B2)++S)=P++A1++B1++(A2++B2++S):=by
      by_cases h:s<m∧m<e
      · rw [if_pos h]
        have r:=rotGo_app (e-s) (P++A1) A2 B1 (B2++S) m (m-s) (e-m) (by omega) (by omega) (by simp at hm ⊢;omega) (by omega) (by omega) (by omega)
        simpa using r
      · rw [if_neg h]
        by_cases h9:s<m
        · obtain rfl:=List.eq_nil_of_length_eq_zero (show B1.length=0 by omega)
          simp
        · obtain rfl:=List.eq_nil_of_length_eq_zero (show A2.length=0 by omega)
          simp
    obtain ⟨C1,c1,c2,c3⟩:∃ C,(if a<s∧s<mid then symL cf f (P++A1++B1++(A2++B2++S)) a s mid else P++A1++B1++(A2++B2++S))=P++C++(A2++B2++S)∧C.Perm (A1++B1)∧List.Pairwise (leC cf) C:=by
      by_cases h:a<s∧s<mid
      · rw [if_pos h]
        exact IH P A1 B1 (A2++B2++S) a s mid ha (by omega) (by omega) (by omega) (by omega) (by omega) a1 b1
      · rw [if_neg h]
        refine ⟨A1++B1,by simp,List.Perm.refl _,?_⟩
        by_cases h9:a<s
        · obtain rfl:=List.eq_nil_of_length_eq_zero (show B1.length=0 by omega)
          simpa using a1
        · obtain rfl:=List.eq_nil_of_length_eq_zero (show A1.length=0 by omega)
          simpa using b1
    have lc:=c2.length_eq
    rw [List.length_append] at lc
    have e3:P++C1++(A2++B2++S)=(P++C1)++A2++B2++S:=by simp
    obtain ⟨C2,d1,d2,d3⟩:∃ C,(if mid<e∧e<b then symL cf f ((P++C1)++A2++B2++S) mid e b else (P++C1)++A2++B2++S)=(P++C1)++C++S∧C.Perm (A2++B2)∧List.Pairwise (leC cf) C:=by
      by_cases h:mid<e∧e<b
      · rw [if_pos h]
        exact IH (P++C1) A2 B2 S mid e b (by rw [List.length_append];omega) (by omega) (by omega) (by omega) (by omega) (by omega) a2 b2
      · rw [if_neg h]
        refine ⟨A2++B2,by simp,List.Perm.refl _,?_⟩
        by_cases h9:mid<e
        · obtain rfl:=List.eq_nil_of_length_eq_zero (show B2.length=0 by omega)
          simpa using a2
        · obtain rfl:=List.eq_nil_of_length_eq_zero (show A2.length=0 by omega)
          simpa using b2
    have x1:∀ u∈A1,∀ v∈B2,leC cf u v:=fun u hu v hv=>by
      have n1:0<A1.length:=List.length_pos_of_mem hu
      have n2:0<B2.length:=List.length_pos_of_mem hv
      rcases s3 with s3|s3
      · omega
      have g1:(A1++A2)[s-1-a]? = some (A1[s-1-a]'(by omega)):=by rw [List.getElem?_append_left (by omega),List.getElem?_eq_getElem]
      have g2:(B1++B2)[e-m]? = some (B2[0]'n2):=by rw [List.getElem?_append_right (by omega),l3,Nat.sub_self,List.getElem?_eq_getElem]
      rw [show mid+m-1-(s-1)=e by omega,ltAt_eq ((gB e (by omega) (by omega)).trans g2) ((gA (s-1) (by omega) (by omega)).trans g1),Bool.not_eq_true'] at s3
      have h9:leC cf (A1[s-1-a]'(by omega)) (B2[0]'n2):=of_decide_eq_false s3
      obtain ⟨k,hk,rfl⟩:=List.mem_iff_getElem.1 hu
      obtain ⟨k',hk',rfl⟩:=List.mem_iff_getElem.1 hv
      have h10:leC cf (A1[k]'hk) (B2[0]'n2):=by
        by_cases hke:k=s-1-a
        · subst hke;exact h9
        · exact htr _ _ _ (List.pairwise_iff_getElem.1 a1 k (s-1-a) hk (by omega) (by omega)) h9
      by_cases hke:k'=0
      · subst hke;exact h10
      · exact htr _ _ _ h10 (List.pairwise_iff_getElem.1 b2 0 k' n2 hk' (by omega))
    have x2:∀ u∈B1,∀ v∈A2,leC cf u v:=fun u hu v hv=>by
      have n1:0<B1.length:=List.length_pos_of_mem hu
      have n2:0<A2.length:=List.length_pos_of_mem hv
      rcases s4 with s4|s4
      · omega
      have g1:(B1++B2)[e-1-m]? = some (B1[e-1-m]'(by omega)):=by rw [List.getElem?_append_left (by omega),List.getElem?_eq_getElem]
      have g2:(A1++A2)[s-a]? = some (A2[0]'n2):=by rw [List.getElem?_append_right (by omega),l1,Nat.sub_self,List.getElem?_eq_getElem]
      rw [show mid+m-1-s=e-1 by omega,ltAt_eq ((gB (e-1) (by omega) (by omega)).trans g1) ((gA s (by omega) (by omega)).trans g2),Bool.not_eq_false'] at s4
      have h9:leC cf (B1[e-1-m]'(by omega)) (A2[0]'n2):=has _ _ (of_decide_eq_true s4)
      obtain ⟨k,hk,rfl⟩:=List.mem_iff_getElem.1 hu
      obtain ⟨k',hk',rfl⟩:=List.mem_iff_getElem.1 hv
      have h10:leC cf (B1[k]'hk) (A2[0]'n2):=by
        by_cases hke:k=e-1-m
        · subst hke;exact h9
        · exact htr _ _ _ (List.pairwise_iff_getElem.1 b1 k (e-1-m) hk (by omega) (by omega)) h9
      by_cases hke:k'=0
      · subst hke;exact h10
      · exact htr _ _ _ h10 (List.pairwise_iff_getElem.1 a2 0 k' n2 hk' (by omega))
    refine ⟨C1++C2,?_,?_,List.pairwise_append.2 ⟨c3,d3,fun u hu v hv=>?_⟩⟩
    · unfold symTail
      rw [hrot,c1,e3,d1]
      simp
    · refine (c2.append d2).trans ?_
      have:(B1++(A2++B2)).Perm (A2++(B1++B2)):=by
        have:=(List.perm_append_comm (l₁:=B1) (l₂:=A2)).append_right B2
        simpa using this
      have:=List.Perm.append_left A1 this
      simpa using this
    · rcases List.mem_append.1 (c2.mem_iff.1 hu) with h|h
      · rcases List.mem_append.1 (d2.mem_iff.1 hv) with h'|h'
        · exact a3 u h v h'
        · exact x1 u h v h'
      · rcases List.mem_append.1 (d2.mem_iff.1 hv) with h'|h'
        · exact x2 u h v h'
        · exact b3 u h v h'
theorem stK_sorts (htr:∀ x y z,leC cf x y→leC cf y z→leC cf x z) (has:∀ x y,cf x y<0→leC cf x y) (k:Nat) (hk:0<k) (l:List α):(stK k cf l).Perm l∧List.Pairwise (leC cf) (stK k cf l):=by
  unfold stK
  by_cases h:l.length<k
  · rw [if_pos h]
    cases l with
    | nil=>exact ⟨List.Perm.refl _,List.Pairwise.nil⟩
    | cons x xs=>
      obtain ⟨C,c1,c2,c3⟩:=insOut_app htr has xs.length [] [x] xs [] 0 1 rfl rfl rfl (List.pairwise_singleton _ _)
      simp only [List.nil_append,List.append_nil,List.singleton_append] at c1 c2
      rw [List.length_cons,Nat.add_sub_cancel,c1]
      exact ⟨c2,c3⟩
  rw [if_neg h]
  have hT:=List.take_append_drop k l
  have l1:(l.take k).length=k:=by rw [List.length_take];omega
  have l2:(l.drop k).length=l.length-k:=by rw [List.length_drop]
  generalize l.take k=A at hT l1
  generalize l.drop k=B at hT l2
  subst hT
  cases A with
  | nil=>simp at l1;omega
  | cons x xs=>
    rw [List.length_cons] at l1
    obtain ⟨C,c1,c2,c3⟩:=insOut_app htr has (k-1) [] [x] xs B 0 1 (by omega) rfl rfl (List.pairwise_singleton _ _)
    simp only [List.nil_append,List.singleton_append] at c1 c2
    have lc:=c2.length_eq
    rw [List.length_cons] at lc
    have hn:(x :: xs++B).length=k+B.length:=by rw [List.length_append,List.length_cons];omega
    rw [hn,c1]
    cases B with
    | nil=>
      rw [List.append_nil,List.append_nil,if_neg (by simp),List.length_nil,show k+0-(k+1)=0 by omega]
      exact ⟨c2,c3⟩
    | cons y ys=>
      obtain ⟨D,d1,d2,d3⟩:=insOut_app htr has ys.length C [y] ys [] k (k+1) rfl (by omega) rfl (List.pairwise_singleton _ _)
      simp only [List.append_nil] at d1
      have ld:=d2.length_eq
      rw [List.length_append,List.length_singleton] at ld
      have e4:C++y :: ys=C++[y]++ys:=by simp
      rw [List.length_cons,e4,show k+(ys.length+1)-(k+1)=ys.length by omega,d1,if_pos (by omega)]
      obtain ⟨E,f1,f2,f3⟩:=symL_app htr has (k+(ys.length+1)) [] C D [] 0 k (k+(ys.length+1)) rfl (by omega) (by omega) (by omega) (by omega) (by omega) c3 d3
      simp only [List.nil_append,List.append_nil] at f1
      rw [f1]
      refine ⟨f2.trans ?_,f3⟩
      have:=c2.append d2
      simpa using this
end
theorem all_cons {α:Type} {P:α→Prop} {x:α} {xs:List α} (h1:P x) (h2:∀ y∈xs,P y):∀ y∈x :: xs,P y:=fun y hy=>by
  rcases List.mem_cons.1 hy with h|h
  · rw [h];exact h1
  · exact h2 y h
theorem ints_inj:∀ x y:List Nat,ints x=ints y→x=y
  | [],[],_=>rfl
  | [],_ :: _,h=>by simp [ints] at h
  | _ :: _,[],h=>by simp [ints] at h
  | a :: x,b :: y,h=>by
    unfold ints at h
    rw [List.map_cons,List.map_cons,List.cons.injEq] at h
    rw [ints_inj x y h.2,Int.ofNat_inj.1 h.1]
theorem cmpI_self:∀ x:List Int,cmpI x x=0
  | []=>rfl
  | a :: x=>by rw [cmpI,if_neg (by omega),if_neg (by omega),cmpI_self x]
theorem cmpI_eq:∀ x y:List Int,cmpI x y=0→x=y
  | [],[],_=>rfl
  | [],_ :: _,h=>by simp [cmpI] at h
  | _ :: _,[],h=>by simp [cmpI] at h
  | a :: x,b :: y,h=>by
    rw [cmpI] at h
    by_cases h1:a<b
    · rw [if_pos h1] at h;omega
    rw [if_neg h1] at h
    by_cases h2:b<a
    · rw [if_pos h2] at h;omega
    rw [if_neg h2] at h
    rw [cmpI_eq x y h,show a=b by omega]
theorem cmpI_neg:∀ x y:List Int,cmpI y x = - cmpI x y
  | [],[]=>rfl
  | [],_ :: _=>rfl
  | _ :: _,[]=>rfl
  | a :: x,b :: y=>by
    rw [cmpI,cmpI]
    by_cases h1:a<b
    · have hn:¬ b<a:=by omega
      simp only [if_pos h1,if_neg hn];rfl
    by_cases h2:b<a
    · simp only [if_pos h2,if_neg h1]
    simp only [if_neg h1,if_neg h2]
    exact cmpI_neg x y
theorem cmpI_tr:∀ x y z:List Int,cmpI x y≤0→cmpI y z≤0→cmpI x z≤0
  | [],y,[],_,_=>by decide
  | [],y,_ :: _,_,_=>by simp [cmpI]
  | a :: x,[],z,h,_=>by simp [cmpI] at h
  | a :: x,b :: y,[],_,h=>by simp [cmpI] at h
  | a :: x,b :: y,c :: z,h1,h2=>by
    rw [cmpI] at h1 h2 ⊢
    by_cases k1:a<b
    · by_cases k2:b<c
      · rw [if_pos (by omega)];decide
      rw [if_neg k2] at h2
      by_cases k3:c<b
      · rw [if_pos k3] at h2;omega
      · rw [if_pos (by omega)];decide
    rw [if_neg k1] at h1
    by_cases k2:b<a
    · rw [if_pos k2] at h1;omega
    rw [if_neg k2] at h1
    obtain rfl:a=b:=by omega
    by_cases k3:a<c
    · rw [if_pos k3];decide
    rw [if_neg k3] at h2 ⊢
    by_cases k4:c<a
    · rw [if_pos k4] at h2;omega
    rw [if_neg k4] at h2 ⊢
    exact cmpI_tr x y z h1 h2
def cT (x y:Fld):Int:=cmpB x.f0 y.f0
theorem cmpB_neg (a b:ByteArray):cmpB b a = - cmpB a b:=cmpI_neg _ _
theorem cT_tr (x y z:Fld) (h1:leC cT x y) (h2:leC cT y z):leC cT x z:=by
  unfold leC cT at *
  have:=cmpB_neg x.f0 y.f0
  have:=cmpB_neg y.f0 z.f0
  have:=cmpB_neg x.f0 z.f0
  have:=cmpI_tr _ _ _ (show cmpB x.f0 y.f0≤0 by omega) (show cmpB y.f0 z.f0≤0 by omega)
  have:cmpB x.f0 z.f0≤0:=this
  omega
theorem cT_as (x y:Fld) (h:cT x y<0):leC cT x y:=by
  unfold leC
  unfold cT at *
  have:=cmpB_neg x.f0 y.f0
  omega
def ltT (x y:Fld):Prop:=cT x y<0
theorem ltT_tr (x y z:Fld) (h1:ltT x y) (h2:ltT y z):ltT x z:=by
  unfold ltT cT at *
  have a1:=cmpI_tr _ _ _ (show cmpB x.f0 y.f0≤0 by omega) (show cmpB y.f0 z.f0≤0 by omega)
  have a1:cmpB x.f0 z.f0≤0:=a1
  by_cases h:cmpB x.f0 z.f0=0
  · have e:=cmpI_eq _ _ h
    have:cmpB z.f0 y.f0=cmpB x.f0 y.f0:=by unfold cmpB;rw [e]
    have:=cmpB_neg y.f0 z.f0
    omega
  · omega
theorem ord_pair:∀ (l:List Fld) (o:Option Fld),ordB fieldX ltX o l=true ↔ (∀ x∈l,fieldX x=true)∧List.Pairwise ltT (o.toList++l)
  | [],none=>⟨fun _=>⟨fun x hx=>(by cases hx),List.Pairwise.nil⟩,fun _=>rfl⟩
  | [],some y=>⟨fun _=>⟨fun x hx=>(by cases hx),List.pairwise_singleton _ _⟩,fun _=>rfl⟩
  | x :: xs,none=>by
    show (fieldX x && ordB fieldX ltX (some x) xs)=true ↔ _
    rw [Bool.and_eq_true,ord_pair xs (some x)]
    constructor
    · rintro ⟨h1,h2,h3⟩
      exact ⟨all_cons (P:=fun y=>fieldX y=true) h1 h2,h3⟩
    · rintro ⟨h1,h2⟩
      exact ⟨h1 x (List.mem_cons_self ..),fun y hy=>h1 y (List.mem_cons_of_mem _ hy),h2⟩
  | x :: xs,some y=>by
    show (fieldX x && (ltX y x && ordB fieldX ltX (some x) xs))=true ↔ _
    rw [Bool.and_eq_true,Bool.and_eq_true,ord_pair xs (some x)]
    constructor
    · rintro ⟨h1,h2,h3,h4⟩
      have hlt:ltT y x:=of_decide_eq_true (p:=cmpB y.f0 x.f0<0) h2
      refine ⟨all_cons (P:=fun y=>fieldX y=true) h1 h3,List.pairwise_cons.2 ⟨fun z hz=>?_,h4⟩⟩
      rcases List.mem_cons.1 hz with rfl|hz
      · exact hlt
      · exact ltT_tr _ _ _ hlt ((List.pairwise_cons.1 h4).1 z hz)
    · rintro ⟨h1,h2⟩
      have h3:=List.pairwise_cons.1 h2
      exact ⟨h1 x (List.mem_cons_self ..),(show ltX y x=true from decide_eq_true (p:=cmpB y.f0 x.f0<0) (h3.1 x (List.mem_cons_self ..))),fun y hy=>h1 y (List.mem_cons_of_mem _ hy),h3.2⟩
theorem check_pair (l:List Fld):checkF l=true ↔ (∀ x∈l,fieldX x=true)∧List.Pairwise ltT l∧l.length≤24:=by
  unfold checkF
  rw [Bool.and_eq_true,decide_eq_true_eq,ord_pair l none]
  exact ⟨fun h=>⟨h.1.1,h.1.2,h.2⟩,fun h=>⟨⟨h.1,h.2.1⟩,h.2.2⟩⟩
def difT (x y:Fld):Prop:=cT x y≠0
theorem difT_sym {x y:Fld} (h:difT x y):difT y x:=by
  unfold difT cT at *
  have:=cmpB_neg x.f0 y.f0
  omega
theorem lt_dif {x y:Fld} (h:ltT x y):difT x y:=by unfold ltT at h;unfold difT;omega
theorem toList_foldB (a b:ByteArray):sameB a b=true ↔ foldB a=foldB b:=by
  unfold sameB
  rw [beq_iff_eq]
  exact ⟨fun h=>ByteArray.ext (Array.ext' (by rw [← ByteArray.toList_eq,← ByteArray.toList_eq];exact h)),fun h=>by rw [h]⟩
theorem same_cmp (a b:ByteArray) (va:validD a.data.toList=true) (vb:validD b.data.toList=true):sameB a b=true ↔ cmpB a b=0:=by
  rw [toList_foldB]
  constructor
  · intro h
    unfold cmpB
    rw [← (fold_valid a va).2,← (fold_valid b vb).2,h]
    exact cmpI_self _
  · intro h
    have e:=cmpI_eq _ _ h
    have e2:(runesOf a.data.toList).map smallN=(runesOf b.data.toList).map smallN:=ints_inj _ _ e
    apply ByteArray.ext
    apply Array.ext'
    rw [fold_list a va,fold_list b vb,e2]
theorem lt_anti (a b:Fld) (h1:ltT a b) (h2:ltT b a):a=b:=by
  unfold ltT cT at *
  have:=cmpB_neg a.f0 b.f0
  omega
def sortI (l:List Fld):List Fld × Int:=if 24<l.length then ([],2) else if l.all fieldX=true then (if checkF (stK 20 cT l)=true then (stK 20 cT l,0) else ([],9)) else ([],1)
theorem sort_q (l:List Fld) (hs:∀ x∈l,x.f0.size<20000) (hl:l.length<100000):Evn (fun k=>schema_Sort.f k l) (sortI l):=by
  unfold sortI
  by_cases h24:24<l.length
  · rw [if_pos h24]
    exact Evn.cg (g':=fun _=>some ([],2)) (fun k=>by unfold schema_Sort.f;rw [if_pos h24]) (Evn.ret _)
  rw [if_neg h24]
  have hidx:∀ k,idxK (fun x:Fld=>(schema_field.f (k+1) x.f0 x.f1 x.f2).bind fun b=>some (!b)) l 0=some (atI (fun x=>!(fieldX x)) 0 l):=fun k=>idxK_at _ _ l 0 (fun x hx=>by
    rw [field_q x.f0 x.f1 x.f2 (by have:=hs x hx;omega) k,Option.bind_some];rfl)
  rcases at_find (fun x:Fld=>!(fieldX x)) l 0 with ⟨h1,h2⟩|⟨pre,x,post,e,h1,h2⟩
  · have hall:l.all fieldX=true:=by
      rw [List.all_eq_true]
      intro x hx
      have:=List.find?_eq_none.1 h2 x hx
      simpa using this
    rw [if_pos hall]
    have hv:∀ x∈l,fieldX x=true:=List.all_eq_true.1 hall
    have hc:∀ k,20000≤k→∀ x y,x∈l→y∈l→name_Compare.f k x.f0 y.f0=some (cT x y):=fun k hk x y hx hy=>compare_q x.f0 y.f0 (hs x hx) (hs y hy) (fieldX_valid x (hv x hx)) (fieldX_valid y (hv y hy)) k (by have:=hs x hx;omega)
    have hst:∀ k,20000≤k→stK 20 (schema_Sort.cf k) l=stK 20 cT l:=fun k hk=>stK_congr (ok:=fun x=>x∈l) (fun x y hx hy=>by unfold schema_Sort.cf;rw [hc k hk x y hx hy];rfl) 20 (fun x h=>h)
    obtain ⟨p1,_⟩:=stK_sorts cT_tr cT_as 20 (by decide) l
    obtain ⟨K,hK⟩:=check_q (stK 20 cT l) (fun x hx=>hs x (p1.mem_iff.1 hx)) (by rw [p1.length_eq];exact hl)
    refine ⟨20001+K,fun k hk=>?_⟩
    obtain ⟨j,rfl⟩:∃ j,k=j+1:=⟨k-1,by omega⟩
    have hK':schema_Check.f (j+1) (stK 20 cT l)=some (checkF (stK 20 cT l)):=hK (j+1) (by omega)
    show schema_Sort.f (j+1) l=_
    unfold schema_Sort.f
    rw [if_neg h24,hidx,Option.bind_some,h1,if_neg (by decide),if_pos (fun x hx y hy=>by rw [hc _ (by omega) x y hx hy];rfl),hst _ (by omega),hK',Option.bind_some]
    split<;>rfl
  · have hall:¬ l.all fieldX=true:=fun hall=>by
      have hx:=List.all_eq_true.1 hall x (by rw [e];simp)
      have:=List.find?_some h2
      rw [hx] at this
      cases this
    rw [if_neg hall]
    refine Evn.of1 fun k=>?_
    unfold schema_Sort.f
    rw [if_neg h24,hidx,Option.bind_some,h1,if_pos (Int.natCast_nonneg _)]
def fitsM (a:List Att):List Fld→Int
  | []=>0
  | f :: fs=>if f.f2=true then (match findA a f.f0 with|none=>7|some _=>fitsM a fs) else fitsM a fs
def fitsA (l:List Fld) (a:List Att):List Att→Int
  | []=>fitsM a l
  | x :: xs=>match findF l x.f0 with|none=>4|some f=>if f.f1=x.f1.f0 then fitsA l a xs else 8
def fitsI (l:List Fld) (a:List Att):Int:=if (checkF l && checkA a)=true then fitsA l a a else 1
theorem find_mem (l:List Fld) (s:ByteArray) (f:Fld) (h:findF l s=some f):f∈l:=List.mem_of_find?_eq_some h
theorem fitsq_l1 (l:List Fld) (a:List Att) (hs:∀ x∈l,x.f0.size<20000) (hl:l.length<100000) (hsa:∀ x∈a,x.f0.size<20000):Evn (fun k=>schema_Fits.l1 k a l (l.length:Int) 0) (fitsM a l):=by
  refine Evn.loop (g:=fun k i=>schema_Fits.l1 k a l (l.length:Int) i) l (by omega) (fun _=>True) (fun pre post=>fitsM a post) ?_ ?_ l [] rfl trivial
  · intro _ hn
    exact Evn.step (fun k=>schema_Fits.l1.eq_2 ..) (Evn.neg hn (Evn.ret _))
  · intro pre x post e _ hlt h0 hw hget hmem ih
    have hrd:rd_T86 l (pre.length:Int)=x:=hget _
    refine Evn.step (fun k=>schema_Fits.l1.eq_2 ..) (Evn.pos hlt (Evn.pos h0 (Evn.pos hlt ?_)))
    rw [hrd,hw,fitsM]
    refine Evn.bc (get_q a x.f0 hsa (by have:=hs x hmem;omega)) ?_
    by_cases h:x.f2=true
    · rw [if_pos h]
      refine Evn.pos h ?_
      cases hf:findA a x.f0 with
      | none=>exact Evn.neg (by decide) (Evn.ret _)
      | some y=>exact Evn.pos rfl (ih trivial)
    · rw [if_neg h]
      exact Evn.neg h (ih trivial)
theorem fitsq_l0 (l:List Fld) (a:List Att) (hs:∀ x∈l,x.f0.size<20000) (hl:l.length<100000) (hsa:∀ x∈a,x.f0.size<20000) (hla:a.length<100000):Evn (fun k=>schema_Fits.l0 k l a a (a.length:Int) 0) (fitsA l a a):=by
  refine Evn.loop (g:=fun k i=>schema_Fits.l0 k l a a (a.length:Int) i) a (by omega) (fun _=>True) (fun pre post=>fitsA l a post) ?_ ?_ a [] rfl trivial
  · intro _ hn
    exact Evn.step (fun k=>schema_Fits.l0.eq_2 ..) (Evn.neg hn (fitsq_l1 l a hs hl hsa))
  · intro pre x post e _ hlt h0 hw hget hmem ih
    have hrd:rd_T76 a (pre.length:Int)=x:=hget _
    refine Evn.step (fun k=>schema_Fits.l0.eq_2 ..) (Evn.pos hlt (Evn.pos h0 (Evn.pos hlt ?_)))
    rw [hrd,hw,fitsA]
    refine Evn.bc (schemaFind_q l x.f0 hs (by have:=hsa x hmem;omega)) ?_
    cases hf:findF l x.f0 with
    | none=>exact Evn.neg (by decide) (Evn.ret _)
    | some y=>
      refine Evn.pos rfl ?_
      show Evn (fun k=>if y.f1=x.f1.f0 then _ else _) (if y.f1=x.f1.f0 then _ else _)
      by_cases h:y.f1=x.f1.f0
      · rw [if_pos h]
        exact Evn.pos h (ih trivial)
      · rw [if_neg h]
        exact Evn.neg h (Evn.ret _)
theorem fits_q (l:List Fld) (a:List Att) (hs:∀ x∈l,x.f0.size<20000) (hl:l.length<100000) (hsa:∀ x∈a,x.f0.size<20000) (hla:a.length<100000):Evn (fun k=>schema_Fits.f k l a) (fitsI l a):=by
  unfold fitsI
  refine Evn.bind (check_q l hs hl) ?_
  by_cases h:checkF l=true
  · rw [h,Bool.true_and]
    refine Evn.pos rfl (Evn.bind (attrs_q a hsa hla) (Evn.step (fun k=>schema_Fits.j0.eq_2 ..) ?_))
    by_cases h2:checkA a=true
    · rw [h2,if_pos rfl]
      exact Evn.neg (by decide) (fitsq_l0 l a hs hl hsa hla)
    · rw [Bool.eq_false_iff.2 h2]
      exact Evn.pos rfl (Evn.ret _)
  · rw [Bool.eq_false_iff.2 h]
    exact Evn.neg (by decide) (Evn.step (fun k=>schema_Fits.j0.eq_2 ..) (Evn.pos rfl (Evn.ret _)))
theorem fitsr_l1 (l:List Fld) (a:List Att) (hs:∀ x∈l,x.f0.size<20000) (hl:l.length<100000) (hsa:∀ x∈a,x.f0.size<20000) (hla:a.length<100000):Evn (fun k=>R04_Fits.l1 k (l.map toR) (a.map toAR) 0) (fitsM a l):=by
  refine Evn.loop (g:=fun k i=>R04_Fits.l1 k (l.map toR) (a.map toAR) i) l (by omega) (fun _=>True) (fun pre post=>fitsM a post) ?_ ?_ l [] rfl trivial
  · intro _ hn
    exact Evn.step (fun k=>R04_Fits.l1.eq_2 ..) (Evn.neg (by rw [List.length_map];exact hn) (Evn.ret _))
  · intro pre x post e _ hlt h0 hw hget hmem ih
    have hrd:rd_T88 (l.map toR) (pre.length:Int)=toR x:=by rw [e];exact getDm toR pre x post _
    refine Evn.step (fun k=>R04_Fits.l1.eq_2 ..) (Evn.pos (by rw [List.length_map];exact hlt) (Evn.pos h0 ?_))
    rw [hrd,hw,fitsM]
    show Evn (fun k=>if x.f2=true then (R04_Get.f k (a.map toAR) x.f0).bind _ else _) _
    by_cases h:x.f2=true
    · rw [if_pos h]
      refine Evn.pos h (Evn.bind (get_r a x.f0 hsa (by have:=hs x hmem;omega) (by omega)) ?_)
      unfold atA findA
      rcases at_find (fun y:Att=>sameB y.f0 x.f0) a 0 with ⟨h1,h2⟩|⟨p,y,q,_,h1,h2⟩
      · rw [h1,h2]
        exact Evn.pos (by decide) (Evn.ret _)
      · rw [h1,h2]
        exact Evn.neg (by omega) (ih trivial)
    · rw [if_neg h]
      exact Evn.neg h (ih trivial)
theorem fitsr_l0 (l:List Fld) (a:List Att) (hs:∀ x∈l,x.f0.size<20000) (hl:l.length<100000) (hsa:∀ x∈a,x.f0.size<20000) (hla:a.length<100000):Evn (fun k=>R04_Fits.l0 k (l.map toR) (a.map toAR) 0) (fitsA l a a):=by
  refine Evn.loop (g:=fun k i=>R04_Fits.l0 k (l.map toR) (a.map toAR) i) a (by omega) (fun _=>True) (fun pre post=>fitsA l a post) ?_ ?_ a [] rfl trivial
  · intro _ hn
    exact Evn.step (fun k=>R04_Fits.l0.eq_2 ..) (Evn.neg (by rw [List.length_map];exact hn) (fitsr_l1 l a hs hl hsa hla))
  · intro pre x post e _ hlt h0 hw hget hmem ih
    have hrd:rd_T114 (a.map toAR) (pre.length:Int)=toAR x:=by rw [e];exact getDm toAR pre x post _
    refine Evn.step (fun k=>R04_Fits.l0.eq_2 ..) (Evn.pos (by rw [List.length_map];exact hlt) (Evn.pos h0 ?_))
    rw [hrd,hw,fitsA]
    refine Evn.bind (schemaFind_r l x.f0 hs (by have:=hsa x hmem;omega) (by omega)) ?_
    unfold atF findF
    rcases at_find (fun y:Fld=>sameB y.f0 x.f0) l 0 with ⟨h1,h2⟩|⟨p,y,q,e2,h1,h2⟩
    · rw [h1,h2]
      exact Evn.pos (by decide) (Evn.ret _)
    · rw [Nat.zero_add] at h1
      have hr2:rd_T88 (l.map toR) (p.length:Int)=toR y:=by rw [e2];exact getDm toR p y q _
      rw [h1,h2,hr2]
      refine Evn.neg (by omega) (Evn.pos (by omega) (Evn.pos (by rw [List.length_map,e2];exact ltp p y q) ?_))
      show Evn (fun k=>if y.f1=x.f1.f0 then _ else _) (if y.f1=x.f1.f0 then _ else _)
      by_cases h:y.f1=x.f1.f0
      · rw [if_pos h]
        exact Evn.pos h (ih trivial)
      · rw [if_neg h]
        exact Evn.neg h (Evn.ret _)
theorem fits_r (l:List Fld) (a:List Att) (hs:∀ x∈l,x.f0.size<20000) (hl:l.length<100000) (hsa:∀ x∈a,x.f0.size<20000) (hla:a.length<100000):Evn (fun k=>R04_Fits.f k (l.map toR) (a.map toAR)) (fitsI l a):=by
  unfold fitsI
  refine Evn.bind (check_r l hs hl) ?_
  by_cases h:checkF l=true
  · rw [h,Bool.true_and]
    refine Evn.pos rfl (Evn.bind (attrs_r a hsa hla) (Evn.step (fun k=>R04_Fits.j0.eq_2 ..) ?_))
    by_cases h2:checkA a=true
    · rw [h2,if_pos rfl]
      exact Evn.neg (by decide) (fitsr_l0 l a hs hl hsa hla)
    · rw [Bool.eq_false_iff.2 h2]
      exact Evn.pos rfl (Evn.ret _)
  · rw [Bool.eq_false_iff.2 h]
    exact Evn.neg (by decide) (Evn.step (fun k=>R04_Fits.j0.eq_2 ..) (Evn.pos rfl (Evn.ret _)))
def clashF (a b:List Fld):Bool:=b.any (fun x=>(findF a x.f0).isSome)
theorem mergego_q (a:List Fld) (hs:∀ x∈a,x.f0.size<20000):∀ (b:List Fld),(∀ x∈b,x.f0.size<20000)→schema_Merge.go a b=some (clashF a b)
  | [],_=>rfl
  | x :: xs,hb=>by
    have ih:=mergego_q a hs xs (fun y hy=>hb y (List.mem_cons_of_mem _ hy))
    rw [schema_Merge.go,schemaFind_q a x.f0 hs (by have:=hb x (List.mem_cons_self ..);omega),Option.bind_some,ih]
    unfold clashF
    rw [List.any_cons]
    cases findF a x.f0 with
    | none=>exact if_neg (by decide)
    | some y=>exact if_pos rfl
def mergeI (a b:List Fld):List Fld × Int:=if checkF a=true then (if checkF b=true then (if clashF a b=true then ([],9) else sortI (a++b)) else ([],1)) else ([],1)
theorem merge_q (a b:List Fld) (ha:∀ x∈a,x.f0.size<20000) (hla:a.length<300) (hb:∀ x∈b,x.f0.size<20000) (hlb:b.length<300):Evn (fun k=>schema_Merge.f k a b) (mergeI a b):=by
  unfold mergeI
  refine Evn.bind (check_q a ha (by omega)) ?_
  by_cases h1:checkF a=true
  · rw [if_pos h1]
    refine Evn.pos h1 (Evn.bind (check_q b hb (by omega)) ?_)
    by_cases h2:checkF b=true
    · rw [if_pos h2]
      refine Evn.pos h2 (Evn.bc (mergego_q a ha b hb) ?_)
      by_cases h3:clashF a b=true
      · rw [if_pos h3]
        exact Evn.pos h3 (Evn.ret _)
      · rw [if_neg h3]
        exact Evn.neg h3 (Evn.pos (by omega) (sort_q (a++b) (fun x hx=>(List.mem_append.1 hx).elim (ha x) (hb x)) (by rw [List.length_append];omega)))
    · rw [if_neg h2]
      exact Evn.neg h2 (Evn.ret _)
  · rw [if_neg h1]
    exact Evn.neg h1 (Evn.ret _)
theorem sameB_eq (a b:ByteArray):sameB a b=true ↔ foldB a=foldB b:=toList_foldB a b
theorem clash_iff (a b:List Fld):clashF a b=true ↔ ∃ x∈b,∃ y∈a,sameB y.f0 x.f0=true:=by
  unfold clashF findF
  rw [List.any_eq_true]
  constructor
  · rintro ⟨x,hx,h⟩
    rw [List.find?_isSome] at h
    obtain ⟨y,hy,h⟩:=h
    exact ⟨x,hx,y,hy,h⟩
  · rintro ⟨x,hx,y,hy,h⟩
    exact ⟨x,hx,by rw [List.find?_isSome];exact ⟨y,hy,h⟩⟩
theorem clash_sym (a b:List Fld):clashF a b=clashF b a:=by
  rw [Bool.eq_iff_iff,clash_iff,clash_iff]
  constructor
  · rintro ⟨x,hx,y,hy,h⟩
    exact ⟨y,hy,x,hx,(sameB_eq _ _).2 ((sameB_eq _ _).1 h).symm⟩
  · rintro ⟨x,hx,y,hy,h⟩
    exact ⟨y,hy,x,hx,(sameB_eq _ _).2 ((sameB_eq _ _).1 h).symm⟩
theorem pair_ne {α:Type} {R:α→α→Prop} (hsy:∀ {x y},R x y→R y x):∀ (l:List α),List.Pairwise R l→∀ x∈l,∀ y∈l,x≠y→R x y
  | [],_,x,hx,_,_,_=>by cases hx
  | a :: l,h,x,hx,y,hy,hn=>by
    obtain ⟨h1,h2⟩:=List.pairwise_cons.1 h
    rcases List.mem_cons.1 hx with e|hx
    · rcases List.mem_cons.1 hy with e2|hy
      · exact absurd (e.trans e2.symm) hn
      · rw [e];exact h1 y hy
    · rcases List.mem_cons.1 hy with e2|hy
      · rw [e2];exact hsy (h1 x hx)
      · exact pair_ne hsy l h2 x hx y hy hn
theorem own_same (S:List Fld) (hS:checkF S=true) (x y:Fld) (hx:x∈S) (hy:y∈S) (h:sameB x.f0 y.f0=true):x=y:=by
  obtain ⟨h1,h2,_⟩:=(check_pair S).1 hS
  refine Classical.byContradiction fun hn=>?_
  exact pair_ne (fun h=>difT_sym h) S (h2.imp lt_dif) x hx y hy hn ((same_cmp _ _ (fieldX_valid x (h1 x hx)) (fieldX_valid y (h1 y hy))).1 h)
theorem find_own (S:List Fld) (hS:checkF S=true) (f:Fld) (hf:f∈S) (s:ByteArray) (h:sameB f.f0 s=true):findF S s=some f:=by
  cases hq:findF S s with
  | none=>
    have:=List.find?_eq_none.1 hq f hf
    exact absurd h this
  | some g=>
    have hg:sameB g.f0 s=true:=List.find?_some (p:=fun x:Fld=>sameB x.f0 s) hq
    have hm:=find_mem S s g hq
    rw [own_same S hS g f hm hf ((sameB_eq _ _).2 (((sameB_eq _ _).1 hg).trans ((sameB_eq _ _).1 h).symm))]
theorem sameB_self (s:ByteArray):sameB s s=true:=(sameB_eq s s).2 rfl
theorem sort_ok (a b:List Fld) (ha:checkF a=true) (hb:checkF b=true) (hc:¬ clashF a b=true) (hl:a.length+b.length≤24):
    ∃ S,sortI (a++b)=(S,0)∧sortI (b++a)=(S,0)∧S.Perm (a++b)∧checkF S=true:=by
  obtain ⟨a1,a2,_⟩:=(check_pair a).1 ha
  obtain ⟨b1,b2,_⟩:=(check_pair b).1 hb
  have hd:List.Pairwise difT (a++b):=List.pairwise_append.2 ⟨a2.imp lt_dif,b2.imp lt_dif,fun x hx y hy h=>hc ((clash_iff a b).2 ⟨y,hy,x,hx,(same_cmp _ _ (fieldX_valid x (a1 x hx)) (fieldX_valid y (b1 y hy))).2 h⟩)⟩
  have key:∀ l:List Fld,l.Perm (a++b)→sortI l=(stK 20 cT l,0)∧checkF (stK 20 cT l)=true:=fun l hp=>by
    obtain ⟨k1,k2⟩:=stK_sorts cT_tr cT_as 20 (by decide) l
    have hll:l.length≤24:=by rw [hp.length_eq,List.length_append];exact hl
    have hall:∀ x∈l,fieldX x=true:=fun x hx=>(List.mem_append.1 (hp.mem_iff.1 hx)).elim (a1 x) (b1 x)
    have hdT:List.Pairwise difT (stK 20 cT l):=hd.perm (k1.trans hp).symm difT_sym
    have hlt:List.Pairwise ltT (stK 20 cT l):=by
      refine (List.pairwise_and_iff.2 ⟨k2,hdT⟩).imp fun {a b} h=>?_
      obtain ⟨h1,h2⟩:=h
      unfold leC cT at h1
      unfold difT cT at h2
      unfold ltT cT
      have:=cmpB_neg a.f0 b.f0
      omega
    have hck:checkF (stK 20 cT l)=true:=(check_pair _).2 ⟨fun x hx=>hall x (k1.mem_iff.1 hx),hlt,by rw [k1.length_eq];exact hll⟩
    refine ⟨?_,hck⟩
    unfold sortI
    rw [if_neg (by omega),if_pos (List.all_eq_true.2 hall),if_pos hck]
  obtain ⟨s1,c1⟩:=key (a++b) (List.Perm.refl _)
  obtain ⟨s2,c2⟩:=key (b++a) List.perm_append_comm
  have p1:=(stK_sorts cT_tr cT_as 20 (by decide) (a++b)).1
  have p2:=(stK_sorts cT_tr cT_as 20 (by decide) (b++a)).1
  have e:stK 20 cT (b++a)=stK 20 cT (a++b):=((p2.trans List.perm_append_comm).trans p1.symm).eq_of_pairwise (fun x y _ _=>lt_anti x y) ((check_pair _).1 c2).2.1 ((check_pair _).1 c1).2.1
  exact ⟨_,s1,by rw [s2,e],p1,c1⟩
theorem merge_cases (a b:List Fld):(∃ e,e≠0∧mergeI a b=([],e)∧mergeI b a=([],e))∨(checkF a=true∧checkF b=true∧∃ S,mergeI a b=(S,0)∧mergeI b a=(S,0)∧S.Perm (a++b)∧checkF S=true):=by
  unfold mergeI
  by_cases h1:checkF a=true
  · by_cases h2:checkF b=true
    · rw [if_pos h1,if_pos h2,if_pos h2,if_pos h1,clash_sym b a]
      by_cases h3:clashF a b=true
      · rw [if_pos h3,if_pos h3]
        exact .inl ⟨9,by decide,rfl,rfl⟩
      · rw [if_neg h3,if_neg h3]
        by_cases h4:a.length+b.length≤24
        · exact .inr ⟨h1,h2,sort_ok a b h1 h2 h3 h4⟩
        · unfold sortI
          rw [if_pos (by rw [List.length_append];omega),if_pos (by rw [List.length_append];omega)]
          exact .inl ⟨2,by decide,rfl,rfl⟩
    · rw [if_pos h1,if_neg h2,if_neg h2]
      exact .inl ⟨1,by decide,rfl,rfl⟩
  · rw [if_neg h1]
    refine .inl ⟨1,by decide,rfl,?_⟩
    split
    · rfl
    · rfl
theorem fitsM_iff (x:List Att):∀ (l:List Fld),fitsM x l=0 ↔ ∀ f∈l,f.f2=true→(findA x f.f0).isSome=true
  | []=>⟨fun _ f hf=>(by cases hf),fun _=>rfl⟩
  | f :: fs=>by
    rw [fitsM]
    by_cases h:f.f2=true
    · rw [if_pos h]
      cases hq:findA x f.f0 with
      | none=>
        refine ⟨fun h0=>by simp at h0,fun h0=>?_⟩
        have:=h0 f (List.mem_cons_self ..) h
        rw [hq] at this
        cases this
      | some y=>
        show fitsM x fs=0 ↔ _
        rw [fitsM_iff x fs]
        exact ⟨fun h0=>all_cons (fun _=>by rw [hq];rfl) h0,fun h0 g hg=>h0 g (List.mem_cons_of_mem _ hg)⟩
    · rw [if_neg h,fitsM_iff x fs]
      exact ⟨fun h0=>all_cons (fun h1=>absurd h1 h) h0,fun h0 g hg=>h0 g (List.mem_cons_of_mem _ hg)⟩
def allB:List ByteArray→List ByteArray→Bool
  | x :: xs,y :: ys=>if sameB x y=true then allB xs ys else false
  | _,_=>true
theorem allS_q:∀ (a b:List ByteArray),(∀ x∈a,x.size<20000)→(∀ x∈b,x.size<20000)→allS name_Same.f a b=some (allB a b)
  | x :: xs,y :: ys,ha,hb=>by
    rw [allS,allB,nameSame_q x y (by have:=ha x (List.mem_cons_self ..);omega) (by have:=hb y (List.mem_cons_self ..);omega),Option.bind_some]
    by_cases h:sameB x y=true
    · rw [if_pos h,if_pos h]
      exact allS_q xs ys (fun z hz=>ha z (List.mem_cons_of_mem _ hz)) (fun z hz=>hb z (List.mem_cons_of_mem _ hz))
    · rw [if_neg h,if_neg h]
  | [],_,_,_=>rfl
  | _ :: _,[],_,_=>rfl
theorem alike_q (a b:List ByteArray) (ha:∀ x∈a,x.size<20000) (hb:∀ x∈b,x.size<20000):name_Alike.f a b=some (if a.length=b.length then allB a b else false):=by
  unfold name_Alike.f
  by_cases h:a.length=b.length
  · rw [if_pos h,if_pos h,allS_q a b ha hb]
  · rw [if_neg h,if_neg h]
theorem sortI_len2 (l:List Fld) (hl:l.length<1000):(sortI l).1.length<1000:=by
  unfold sortI
  split
  · exact (by decide:(0:Nat)<1000)
  · split
    · split
      · rename_i h _ _
        have:=(stK_sorts cT_tr cT_as 20 (by decide) l).1.length_eq
        show (stK 20 cT l).length<1000
        omega
      · exact (by decide:(0:Nat)<1000)
    · exact (by decide:(0:Nat)<1000)
theorem mergeI_len (a b:List Fld) (ha:a.length<300) (hb:b.length<300):(mergeI a b).1.length<1000:=by
  unfold mergeI
  split
  · split
    · split
      · exact (by decide:(0:Nat)<1000)
      · exact sortI_len2 _ (by rw [List.length_append];omega)
    · exact (by decide:(0:Nat)<1000)
  · exact (by decide:(0:Nat)<1000)
def fitsT (t o:Typ):Bool:=if (if (t.f4.drop 1).length=o.f4.length then allB (t.f4.drop 1) o.f4 else false)=true then (if (mergeI o.f3 t.f2).2=0 then eqF (mergeI o.f3 t.f2).1 t.f3 else false) else false
theorem fitsT_q (t o:Typ) (h:OkT t) (ho:OkT o) (hc:¬ t.f4.length<1):Evn (fun k=>forest_fits.f k t.f0 t.f1 t.f2 t.f3 t.f4 t.f5.f0 t.f5.f1 t.f5.f2 o.f0 o.f1 o.f2 o.f3 o.f4 o.f5.f0 o.f5.f1 o.f5.f2) (fitsT t o):=by
  unfold fitsT
  refine Evn.pos (by omega) (Evn.bc (alike_q (t.f4.drop 1) o.f4 (fun x hx=>h.c x (List.mem_of_mem_drop hx)) ho.c) ?_)
  generalize (if (t.f4.drop 1).length=o.f4.length then allB (t.f4.drop 1) o.f4 else false)=b
  cases b with
  | false=>exact Evn.val (if_neg (by decide)).symm (Evn.neg (by decide) (Evn.ret _))
  | true=>
    refine Evn.val (if_pos rfl).symm (Evn.pos rfl (Evn.bind (merge_q o.f3 t.f2 ho.a ho.al h.o h.ol) ?_))
    by_cases h2:(mergeI o.f3 t.f2).2=0
    · exact Evn.val (if_pos h2).symm (Evn.pos h2 (Evn.bind (eqFQ_ev _ t.f3 (by have:=mergeI_len o.f3 t.f2 ho.al h.ol;omega)) (Evn.ret _)))
    · exact Evn.val (if_neg h2).symm (Evn.neg h2 (Evn.ret _))
theorem chainG_all:∀ (post pre:List ByteArray),chainG pre post=true→∀ x∈post,checkN x=0
  | [],_,_,x,hx=>by cases hx
  | y :: ys,pre,h,x,hx=>by
    rw [chainG] at h
    by_cases h1:checkN y=0
    · rw [if_pos h1] at h
      by_cases h2:hasB pre y=true
      · rw [if_pos h2] at h;cases h
      · rw [if_neg h2] at h
        rcases List.mem_cons.1 hx with rfl|hx
        · exact h1
        · exact chainG_all ys _ h x hx
    · rw [if_neg h1] at h;cases h
theorem toL_inj {a b:ByteArray} (h:a.toList=b.toList):a=b:=ByteArray.ext (Array.toList_inj.1 (by rw [← ByteArray.toList_eq,← ByteArray.toList_eq];exact h))
theorem chainB_open {l:List ByteArray} {s:ByteArray} (h:chainB l s=true):∃ xs,l=s :: xs∧l.length≤8∧chainG [] l=true:=by
  unfold chainB at h
  by_cases h1:l.length<1
  · rw [if_pos h1] at h;cases h
  rw [if_neg h1] at h
  by_cases h2:l.length>8
  · rw [if_pos h2] at h;cases h
  rw [if_neg h2] at h
  by_cases h3:((rdOf ByteArray.empty l 0).toList != s.toList)=true
  · rw [if_pos h3] at h;cases h
  rw [if_neg h3] at h
  cases l with
  | nil=>exact absurd (by decide) h1
  | cons x xs=>
    have e:x.toList=s.toList:=by
      have h4:=Bool.eq_false_iff.2 h3
      rw [bne_eq_false_iff_eq] at h4
      exact h4
    rw [toL_inj e]
    rw [toL_inj e] at h
    exact ⟨xs,rfl,by simp only [List.length_cons] at h2 ⊢;omega,h⟩
theorem checkT_open {t:Typ} (h:checkT t=true):checkF t.f2=true∧checkF t.f3=true∧idB t.f5.f0 t.f5.f1 t.f5.f2=true∧chainB t.f4 t.f0=true∧tailT t=true:=by
  unfold checkT at h
  by_cases h1:checkF t.f2=true
  · rw [if_pos h1] at h
    by_cases h2:checkF t.f3=true
    · rw [if_pos h2] at h
      by_cases h3:idB t.f5.f0 t.f5.f1 t.f5.f2=true
      · rw [if_pos h3] at h
        by_cases h4:chainB t.f4 t.f0=true
        · rw [if_pos h4] at h
          exact ⟨h1,h2,h3,h4,h⟩
        · rw [if_neg h4] at h;cases h
      · rw [if_neg h3] at h;cases h
    · rw [if_neg h2] at h;cases h
  · rw [if_neg h1] at h;cases h
theorem checkN_valid {s:ByteArray} (h:checkN s=0):s.size≠0∧validD s.data.toList=true:=by
  unfold checkN at h
  by_cases h1:formedB s=true
  · exact ⟨(formed_valid s h1).1,(formed_valid s h1).2.1⟩
  · rw [if_neg h1] at h;cases h
theorem checkT_name {t:Typ} (h:checkT t=true):checkN t.f0=0:=by
  obtain ⟨xs,e,_,hg⟩:=chainB_open (checkT_open h).2.2.2.1
  exact chainG_all _ _ hg t.f0 (by rw [e];exact List.mem_cons_self ..)
def belowT (t o:Typ):Bool:=if sameB o.f0 t.f1=true then (if checkT o=true then fitsT t o else false) else false
def gapT:Option Typ→Typ→Bool
  | none,_=>false
  | some y,x=>decide (cmpB y.f0 x.f0≥0)
def isG (all:List Typ):Option Typ→List Typ→Bool
  | _,[]=>true
  | p,x :: xs=>if checkT x=true then (if gapT p x=true then false else (if x.f1.toList=([]:List UInt8) then isG all (some x) xs else (if all.any (fun o=>belowT x o)=true then isG all (some x) xs else false))) else false
theorem is_l1 (l:List Typ) (hok:∀ t∈l,OkT t) (hb:l.length<100000) (x:Typ) (hx:OkT x) (hc:¬ x.f4.length<1) (i:Int) (V:Bool) (ih:Evn (fun k=>forest_Is.l0 k l l (l.length:Int) (wrap64 (i+1))) V):
    Evn (fun k=>forest_Is.l1 k l l (l.length:Int) i l (l.length:Int) 0 x.f0 x.f1 x.f2 x.f3 x.f4 x.f5.f0 x.f5.f1 x.f5.f2) (if l.any (fun o=>belowT x o)=true then V else false):=by
  refine Evn.loop (g:=fun k j=>forest_Is.l1 k l l (l.length:Int) i l (l.length:Int) j x.f0 x.f1 x.f2 x.f3 x.f4 x.f5.f0 x.f5.f1 x.f5.f2) l (by omega) (fun _=>True) (fun pre post=>if post.any (fun o=>belowT x o)=true then V else false) ?_ ?_ l [] rfl trivial
  · intro _ hn
    exact Evn.step (fun k=>forest_Is.l1.eq_2 ..) (Evn.neg hn (Evn.ret _))
  · intro pre o post e _ hlt h0 hw hget hmem ih2
    have hrd:rd_T30 l (pre.length:Int)=o:=hget _
    have ih2:=ih2 trivial
    refine Evn.step (fun k=>forest_Is.l1.eq_2 ..) (Evn.pos hlt (Evn.pos h0 (Evn.pos hlt ?_)))
    rw [hrd,hw,List.any_cons]
    have ho:=hok o hmem
    refine Evn.bc (nameSame_q o.f0 x.f1 (by have:=ho.n0;omega) (by have:=hx.n1;omega)) ?_
    by_cases h1:sameB o.f0 x.f1=true
    · refine Evn.pos h1 (Evn.bind (checkT_q o ho) ?_)
      by_cases h2:checkT o=true
      · refine Evn.pos h2 (Evn.bind (fitsT_q x o hx ho hc) ?_)
        by_cases h3:fitsT x o=true
        · have hbl:belowT x o=true:=by unfold belowT;rw [if_pos h1,if_pos h2,h3]
          rw [hbl,Bool.true_or]
          exact Evn.val (if_pos rfl).symm (Evn.pos h3 ih)
        · have hbl:belowT x o=false:=by unfold belowT;rw [if_pos h1,if_pos h2,Bool.eq_false_iff.2 h3]
          rw [hbl,Bool.false_or]
          exact Evn.neg h3 ih2
      · have hbl:belowT x o=false:=by unfold belowT;rw [if_pos h1,if_neg h2]
        rw [hbl,Bool.false_or]
        exact Evn.neg h2 ih2
    · have hbl:belowT x o=false:=by unfold belowT;rw [if_neg h1]
      rw [hbl,Bool.false_or]
      exact Evn.neg h1 ih2
theorem is_j1 (l:List Typ) (hok:∀ t∈l,OkT t) (hb:l.length<100000) (x:Typ) (hx:OkT x) (hc:¬ x.f4.length<1) (i:Int) (V:Bool) (ih:Evn (fun k=>forest_Is.l0 k l l (l.length:Int) (wrap64 (i+1))) V) (b:Bool):
    Evn (fun k=>forest_Is.j1 k l l (l.length:Int) i b x.f0 x.f1 x.f2 x.f3 x.f4 x.f5.f0 x.f5.f1 x.f5.f2) (if b=true then false else (if x.f1.toList=([]:List UInt8) then V else (if l.any (fun o=>belowT x o)=true then V else false))):=by
  refine Evn.step (fun k=>forest_Is.j1.eq_2 ..) ?_
  by_cases h1:b=true
  · exact Evn.val (if_pos h1).symm (Evn.pos h1 (Evn.ret _))
  · refine Evn.val (if_neg h1).symm (Evn.neg h1 ?_)
    by_cases h2:x.f1.toList=([]:List UInt8)
    · exact Evn.val (if_pos h2).symm (Evn.pos h2 ih)
    · exact Evn.val (if_neg h2).symm (Evn.neg h2 (is_l1 l hok hb x hx hc i V ih))
theorem is_l0 (l:List Typ) (hok:∀ t∈l,OkT t) (hb:l.length<100000):Evn (fun k=>forest_Is.l0 k l l (l.length:Int) 0) (isG l none l):=by
  refine Evn.loop (g:=fun k i=>forest_Is.l0 k l l (l.length:Int) i) l (by omega) (fun pre=>∀ y∈pre,checkT y=true) (fun pre post=>isG l (lastO pre) post) ?_ ?_ l [] rfl (fun y hy=>by cases hy)
  · intro _ hn
    exact Evn.step (fun k=>forest_Is.l0.eq_2 ..) (Evn.neg hn (Evn.ret _))
  · intro pre x post e hpre hlt h0 hw hget hmem ih
    have hrd:rd_T30 l (pre.length:Int)=x:=hget _
    have hx:=hok x hmem
    refine Evn.step (fun k=>forest_Is.l0.eq_2 ..) (Evn.pos hlt (Evn.pos h0 (Evn.pos hlt ?_)))
    rw [hrd,isG]
    refine Evn.bind (checkT_q x hx) ?_
    by_cases h1:checkT x=true
    · have hc:=chainB_pos (checkT_open h1).2.2.2.1
      have ih:=ih (fun y hy=>(List.mem_append.1 hy).elim (hpre y) (fun h=>by rw [List.mem_singleton.1 h];exact h1))
      rw [lastO_snoc,← hw] at ih
      refine Evn.val (if_pos h1).symm (Evn.pos h1 ?_)
      rcases snoc_cases pre with rfl|⟨q,y,rfl⟩
      · rw [lastO_nil]
        exact Evn.neg (by decide) (is_j1 l hok hb x hx hc _ _ ih false)
      · have hy:=hpre y (by simp)
        have hly:y∈l:=by rw [e];simp
        have hrd2:rd_T30 l (q.length:Int)=y:=by rw [e];exact getDq q y (x :: post) _
        rw [lastO_snoc]
        refine Evn.pos (by rw [snocLen];omega) ?_
        rw [w1m q y (by rw [snocLen] at hlt;omega)]
        refine Evn.pos (Int.natCast_nonneg _) (Evn.pos (by rw [snocLen] at hlt;omega) ?_)
        rw [hrd2]
        refine Evn.bind (cmp_ev y.f0 x.f0 (hok y hly).n0 hx.n0 (checkN_valid (checkT_name hy)).2 (checkN_valid (checkT_name h1)).2) ?_
        exact is_j1 l hok hb x hx hc _ _ ih _
    · exact Evn.val (if_neg h1).symm (Evn.neg h1 (Evn.step (fun k=>forest_Is.j1.eq_2 ..) (Evn.pos rfl (Evn.ret _))))
def isB (l:List Typ):Bool:=if l.length>200 then false else isG l none l
theorem isB_q (l:List Typ) (hok:∀ t∈l,OkT t) (hb:l.length<100000):Evn (fun k=>forest_Is.f k l) (isB l):=by
  unfold isB
  by_cases h:l.length>200
  · exact Evn.val (if_pos h).symm (Evn.pos (by omega) (Evn.ret _))
  · exact Evn.val (if_neg h).symm (Evn.neg (by omega) (is_l0 l hok hb))
def ltN (a b:Typ):Prop:=cmpB a.f0 b.f0<0
theorem ltN_tr {a b c:Typ} (h1:ltN a b) (h2:ltN b c):ltN a c:=ltT_tr ⟨a.f0,0,false⟩ ⟨b.f0,0,false⟩ ⟨c.f0,0,false⟩ h1 h2
theorem isG_open (all:List Typ):∀ (xs:List Typ) (p:Option Typ),isG all p xs=true→(∀ x∈xs,checkT x=true)∧List.Pairwise ltN (p.toList++xs)∧∀ x∈xs,x.f1.toList≠([]:List UInt8)→∃ o∈all,belowT x o=true
  | [],p,_=>⟨fun x hx=>(by cases hx),by cases p<;>simp,fun x hx=>(by cases hx)⟩
  | x :: xs,p,h=>by
    rw [isG] at h
    by_cases h1:checkT x=true
    · rw [if_pos h1] at h
      by_cases h2:gapT p x=true
      · rw [if_pos h2] at h;cases h
      rw [if_neg h2] at h
      have h3:isG all (some x) xs=true∧(x.f1.toList≠([]:List UInt8)→∃ o∈all,belowT x o=true):=by
        by_cases h4:x.f1.toList=([]:List UInt8)
        · rw [if_pos h4] at h
          exact ⟨h,fun h5=>absurd h4 h5⟩
        · rw [if_neg h4] at h
          by_cases h5:all.any (fun o=>belowT x o)=true
          · rw [if_pos h5] at h
            exact ⟨h,fun _=>List.any_eq_true.1 h5⟩
          · rw [if_neg h5] at h;cases h
      obtain ⟨k1,k2,k3⟩:=isG_open all xs (some x) h3.1
      refine ⟨all_cons h1 k1,?_,all_cons h3.2 k3⟩
      cases p with
      | none=>exact k2
      | some y=>
        have hy:ltN y x:=by
          unfold ltN
          have h6:¬ cmpB y.f0 x.f0≥0:=fun h7=>h2 (decide_eq_true h7)
          omega
        have k2':List.Pairwise ltN (x :: xs):=k2
        show List.Pairwise ltN (y :: x :: xs)
        refine List.pairwise_cons.2 ⟨fun z hz=>?_,k2'⟩
        rcases List.mem_cons.1 hz with rfl|hz
        · exact hy
        · exact ltN_tr hy ((List.pairwise_cons.1 k2').1 z hz)
    · rw [if_neg h1] at h;cases h
theorem isB_open {l:List Typ} (h:isB l=true):(∀ x∈l,checkT x=true)∧List.Pairwise ltN l∧∀ x∈l,x.f1.toList≠([]:List UInt8)→∃ o∈l,belowT x o=true:=by
  unfold isB at h
  by_cases h1:l.length>200
  · rw [if_pos h1] at h;cases h
  · rw [if_neg h1] at h
    exact isG_open l l none h
theorem isB_uniq {l:List Typ} (h:isB l=true) {x y:Typ} (hx:x∈l) (hy:y∈l) (hs:sameB x.f0 y.f0=true):x=y:=by
  obtain ⟨h1,h2,_⟩:=isB_open h
  refine Classical.byContradiction fun hn=>?_
  have hd:List.Pairwise (fun a b:Typ=>cmpB a.f0 b.f0≠0) l:=h2.imp (fun h=>by unfold ltN at h;omega)
  exact pair_ne (R:=fun a b:Typ=>cmpB a.f0 b.f0≠0) (fun {a b} h=>by have:=cmpB_neg a.f0 b.f0;omega) l hd x hx y hy hn ((same_cmp _ _ (checkN_valid (checkT_name (h1 x hx))).2 (checkN_valid (checkT_name (h1 y hy))).2).1 hs)
theorem fold_empty:foldB ⟨#[]⟩=⟨#[]⟩:=by decide +kernel
theorem name_nonempty {s:ByteArray} (h:checkN s=0):¬ sameB s ⟨#[]⟩=true:=by
  obtain ⟨h1,h2⟩:=checkN_valid h
  intro hs
  have e:=(sameB_eq _ _).1 hs
  rw [fold_empty] at e
  have e2:=fold_list s h2
  rw [e] at e2
  have e3:(runesOf s.data.toList).map smallN=[]:=List.eq_nil_of_length_eq_zero (Nat.le_zero.1 (by have:=encL_len ((runesOf s.data.toList).map smallN);rw [← e2] at this;exact this))
  have e4:runesOf s.data.toList=[]:=List.map_eq_nil_iff.1 e3
  have e5:=(valid_runes s h2).1
  rw [e4] at e5
  exact h1 (by show s.data.size=0;rw [← Array.length_toList,← e5];rfl)
theorem okZ:OkT z30:=⟨by decide,by decide,fun x hx=>(by cases hx),by decide,fun x hx=>(by cases hx),by decide,fun x hx=>(by cases hx),by decide⟩
theorem found_some (l:List Typ) (s:ByteArray) (hok:∀ t∈l,OkT t):∃ (t:Typ) (b:Bool),OkT t∧foundT (findT l s)=(t.f0,t.f1,t.f2,t.f3,t.f4,t.f5.f0,t.f5.f1,t.f5.f2,b)∧(b=true→t∈l∧sameB t.f0 s=true):=by
  cases h:findT l s with
  | none=>exact ⟨z30,false,okZ,rfl,fun h=>by cases h⟩
  | some t=>
    have hm:t∈l:=List.mem_of_find?_eq_some h
    exact ⟨t,true,hok t hm,rfl,fun _=>⟨hm,List.find?_some (p:=fun x:Typ=>sameB x.f0 s) h⟩⟩
theorem alikeR_ev (a b:ByteArray) (ha:a.size<90000) (hb:b.size<90000):Evn (fun k=>R05_Alike.f k a b) (sameB a b):=Evn.of (2 * a.size+20+(2 * b.size+20)) (fun k hk=>by
  unfold R05_Alike.f
  rw [fold_r a ha k (by omega),Option.bind_some,fold_r b hb k (by omega),Option.bind_some];rfl)
theorem sameB_sym (a b:ByteArray):sameB a b=sameB b a:=by
  rw [Bool.eq_iff_iff,sameB_eq,sameB_eq]
  exact eq_comm
theorem hasR_ev (l:List ByteArray) (s:ByteArray) (hl:∀ x∈l,x.size<20000) (hs:s.size<90000) (hb:l.length<1000000):Evn (fun k=>R05_Has.f k l s) (hasB l s):=by
  refine Evn.loop (g:=fun k i=>R05_Has.l0 k l s i) l (by omega) (fun _=>True) (fun pre post=>post.any (fun x=>sameB s x)) ?_ ?_ l [] rfl trivial
  · intro _ hq
    exact Evn.step (fun k=>R05_Has.l0.eq_2 ..) (Evn.neg hq (Evn.ret _))
  · intro pre x post e _ hlt h0 hw hget hmem ih
    have hrd:rdOf ByteArray.empty l (pre.length:Int)=x:=hget _
    refine Evn.step (fun k=>R05_Has.l0.eq_2 ..) (Evn.pos hlt (Evn.pos h0 ?_))
    rw [hrd,hw,List.any_cons,sameB_sym s x]
    refine Evn.bind (alikeR_ev x s (by have:=hl x hmem;omega) hs) ?_
    by_cases h:sameB x s=true
    · rw [h,Bool.true_or]
      exact Evn.pos rfl (Evn.ret _)
    · rw [Bool.eq_false_iff.2 h,Bool.false_or]
      exact Evn.neg (by decide) (ih trivial)
theorem isIDR_q (a b c:Int):R05_IsID.f a b c=some (idB a b c):=by
  unfold R05_IsID.f idB
  repeat' (first|rfl|split)
theorem withinR_ev (a b:List Fld) (hb:∀ x∈b,x.f0.size<20000) (ha:∀ x∈a,x.f0.size<20000) (hla:a.length<100000) (hlb:b.length<100000):Evn (fun k=>R04_Within.f k (a.map toR) (b.map toR)) (withinG a b):=by
  refine Evn.loop (g:=fun k i=>R04_Within.l0 k (a.map toR) (b.map toR) i) a (by omega) (fun _=>True) (fun pre post=>withinG post b) ?_ ?_ a [] rfl trivial
  · intro _ hq
    exact Evn.step (fun k=>R04_Within.l0.eq_2 ..) (Evn.neg (by rw [List.length_map];exact hq) (Evn.ret _))
  · intro pre x post e _ hlt h0 hw hget hmem ih
    have hrd:rd_T88 (a.map toR) (pre.length:Int)=toR x:=by rw [e];exact getDm toR pre x post _
    refine Evn.step (fun k=>R04_Within.l0.eq_2 ..) (Evn.pos (by rw [List.length_map];exact hlt) (Evn.pos h0 ?_))
    rw [hrd,hw]
    have hun:withinG (x :: post) b=((match findF b x.f0 with|none=>false|some y=>if y.f1=x.f1 then !(y.f2 != x.f2) else false) && withinG post b):=by unfold withinG;rw [List.all_cons]<;>rfl
    rw [hun]
    refine Evn.bind (schemaFind_r b x.f0 hb (by have:=ha x hmem;omega) (by omega)) ?_
    unfold atF findF
    rcases at_find (fun y:Fld=>sameB y.f0 x.f0) b 0 with ⟨h1,h2⟩|⟨p,y,q,e2,h1,h2⟩
    · rw [h1,h2]
      exact Evn.pos (by decide) (Evn.ret _)
    · rw [Nat.zero_add] at h1
      have hr2:rd_T88 (b.map toR) (p.length:Int)=toR y:=by rw [e2];exact getDm toR p y q _
      rw [h1,h2,hr2]
      refine Evn.neg (by omega) (Evn.pos (by omega) (Evn.pos (by rw [List.length_map,e2];exact ltp p y q) ?_))
      show Evn (fun k=>if y.f1=x.f1 then (if (y.f2 != x.f2)=true then _ else _) else _) ((if y.f1=x.f1 then !(y.f2 != x.f2) else false) && withinG post b)
      by_cases h:y.f1=x.f1
      · refine Evn.pos h ?_
        rw [if_pos h]
        by_cases h3:(y.f2 != x.f2)=true
        · rw [h3]
          exact Evn.pos rfl (Evn.ret _)
        · rw [Bool.eq_false_iff.2 h3]
          exact Evn.neg (by decide) (ih trivial)
      · refine Evn.neg h ?_
        rw [if_neg h]
        exact Evn.ret _
theorem refcheck_tail (t:Typ) (h:OkT t) (hc:¬ t.f4.length<1):Evn (fun k=>if (t.f4.length:Int)=1 then (if t.f1.toList=([]:List UInt8) then ((R04_Same.f k (t.f2.map toR) (t.f3.map toR)).bind fun t589=>(some t589)) else (some false)) else (if 1<(t.f4.length:Int) then (if t.f1.toList=(rdOf ByteArray.empty t.f4 1).toList then ((R04_Within.f k (t.f2.map toR) (t.f3.map toR)).bind fun t591=>(some t591)) else (some false)) else (none))) (tailT t):=by
  unfold tailT
  by_cases h1:t.f4.length=1
  · refine Evn.val (if_pos h1).symm (Evn.pos (by omega) ?_)
    by_cases h2:t.f1.toList=([]:List UInt8)
    · exact Evn.val (if_pos h2).symm (Evn.pos h2 (Evn.bind (eqFR_ev t.f2 t.f3 (by have:=h.ol;omega)) (Evn.ret _)))
    · exact Evn.val (if_neg h2).symm (Evn.neg h2 (Evn.ret _))
  · refine Evn.val (if_neg h1).symm (Evn.neg (by omega) (Evn.pos (by omega) ?_))
    by_cases h2:t.f1.toList=(rdOf ByteArray.empty t.f4 1).toList
    · exact Evn.val (if_pos h2).symm (Evn.pos h2 (Evn.bind (withinR_ev t.f2 t.f3 h.a h.o (by have:=h.ol;omega) (by have:=h.al;omega)) (Evn.ret _)))
    · exact Evn.val (if_neg h2).symm (Evn.neg h2 (Evn.ret _))
theorem refcheck_l0 (t:Typ) (h:OkT t) (hc:¬ t.f4.length<1):Evn (fun k=>R05_Check.l0 k 0 t.f0 t.f1 (t.f2.map toR) (t.f3.map toR) t.f4 t.f5.f0 t.f5.f1 t.f5.f2) (if chainG [] t.f4=true then tailT t else false):=by
  refine Evn.loop (g:=fun k i=>R05_Check.l0 k i t.f0 t.f1 (t.f2.map toR) (t.f3.map toR) t.f4 t.f5.f0 t.f5.f1 t.f5.f2) t.f4 (by have:=h.cl;omega) (fun _=>True) (fun pre post=>if chainG pre post=true then tailT t else false) ?_ ?_ t.f4 [] rfl trivial
  · intro _ hn
    exact Evn.step (fun k=>R05_Check.l0.eq_2 ..) (Evn.neg hn (Evn.val (if_pos rfl).symm (refcheck_tail t h hc)))
  · intro pre x post e _ hlt h0 hw hget hmem ih
    have hrd:rdOf ByteArray.empty t.f4 (pre.length:Int)=x:=hget _
    have htk:t.f4.take ((pre.length:Int)).toNat=pre:=by rw [e,Int.toNat_natCast];exact List.take_left' rfl
    refine Evn.step (fun k=>R05_Check.l0.eq_2 ..) (Evn.pos hlt (Evn.pos h0 ?_))
    rw [hrd,hw,htk,chainG]
    refine Evn.bind (Evn.of (2 * x.size+20) (fun k hk=>check_ref x (by have:=h.c x hmem;omega) k hk)) ?_
    by_cases h1:checkN x=0
    · rw [if_pos h1]
      refine Evn.pos h1 (Evn.pos (by omega) (Evn.bind (hasR_ev pre x (fun y hy=>h.c y (by rw [e];simp [hy])) (by have:=h.c x hmem;omega) (by have:=h.cl;omega)) ?_))
      by_cases h2:hasB pre x=true
      · rw [if_pos h2]
        exact Evn.pos h2 (Evn.ret _)
      · rw [if_neg h2]
        exact Evn.neg h2 (ih trivial)
    · rw [if_neg h1]
      exact Evn.neg h1 (Evn.ret _)
theorem checkT_r (t:Typ) (h:OkT t):Evn (fun k=>R05_Check.f k t.f0 t.f1 (t.f2.map toR) (t.f3.map toR) t.f4 t.f5.f0 t.f5.f1 t.f5.f2) (checkT t):=by
  have no:Evn (fun k=>R05_Check.j0 k true t.f0 t.f1 (t.f2.map toR) (t.f3.map toR) t.f4 t.f5.f0 t.f5.f1 t.f5.f2) false:=Evn.step (fun k=>R05_Check.j0.eq_2 ..) (Evn.pos rfl (Evn.ret _))
  unfold checkT
  refine Evn.bind (check_r t.f2 h.o (by have:=h.ol;omega)) ?_
  by_cases h1:checkF t.f2=true
  · rw [if_pos h1]
    refine Evn.pos h1 (Evn.bind (check_r t.f3 h.a (by have:=h.al;omega)) ?_)
    by_cases h2:checkF t.f3=true
    · rw [if_pos h2]
      refine Evn.pos h2 (Evn.bc (isIDR_q _ _ _) ?_)
      by_cases h3:idB t.f5.f0 t.f5.f1 t.f5.f2=true
      · rw [if_pos h3]
        refine Evn.pos h3 ?_
        unfold chainB
        by_cases c1:t.f4.length<1
        · rw [if_pos c1]
          exact Evn.pos (by omega) no
        rw [if_neg c1]
        refine Evn.neg (by omega) ?_
        by_cases c2:t.f4.length>8
        · rw [if_pos c2]
          exact Evn.pos (by omega) no
        rw [if_neg c2]
        refine Evn.neg (by omega) (Evn.pos (by omega) ?_)
        by_cases c3:((rdOf ByteArray.empty t.f4 0).toList != t.f0.toList)=true
        · rw [if_pos c3,c3]
          exact no
        · rw [if_neg c3,Bool.eq_false_iff.2 c3]
          exact Evn.step (fun k=>R05_Check.j0.eq_2 ..) (Evn.neg (by decide) (refcheck_l0 t h c1))
      · rw [if_neg h3]
        exact Evn.neg h3 no
    · rw [if_neg h2]
      exact Evn.neg h2 no
  · rw [if_neg h1]
    exact Evn.neg h1 no
theorem refT_ev (t:Typ) (h:OkT t):Evn (fun k=>L05_Ref.f k t.f0 t.f1 t.f2 t.f3 t.f4 t.f5.f0 t.f5.f1 t.f5.f2) (t.f0,t.f1,t.f2.map toR,t.f3.map toR,t.f4,t.f5.f0,t.f5.f1,t.f5.f2):=
  Evn.bind (refsF_ev t.f2 (by have:=h.ol;omega)) (Evn.bind (refsF_ev t.f3 (by have:=h.al;omega)) (Evn.ret _))
def fewA (l:List Att):Bool:=fewS (fun x=>decide (x.f0.size≤200) && decide (x.f1.f2.size≤500)) 0 l
theorem fewA_ev (l:List Att):Evn (fun k=>L04_FewAttrs.f k l) (fewA l):=by
  refine Evn.loopS (g:=fun k i=>L04_FewAttrs.l0 k l i) l (fun _=>True) (fun pre post=>fewS (fun x=>decide (x.f0.size≤200) && decide (x.f1.f2.size≤500)) pre.length post) ?_ ?_ l [] rfl trivial
  · intro _ hn
    exact Evn.step (fun k=>L04_FewAttrs.l0.eq_2 ..) (Evn.neg hn (Evn.ret _))
  · intro pre x post e _ hlt h0 hw hget hmem ih
    have hrd:rd_T76 l (pre.length:Int)=x:=hget _
    refine Evn.step (fun k=>L04_FewAttrs.l0.eq_2 ..) (Evn.pos hlt ?_)
    rw [hrd,fewS]
    by_cases h1:pre.length≤40
    · rw [if_pos h1,hw (by omega)]
      refine Evn.neg (by omega) (Evn.pos h0 ?_)
      by_cases h2:x.f0.size≤200
      · refine Evn.neg (by omega) ?_
        by_cases h3:x.f1.f2.size≤500
        · rw [if_pos (by rw [decide_eq_true h2,decide_eq_true h3];rfl)]
          refine Evn.neg (by omega) ?_
          exact Evn.val (by rw [snocLen]) (ih trivial)
        · rw [if_neg (by rw [decide_eq_false h3,Bool.and_false];decide)]
          exact Evn.pos (by omega) (Evn.ret _)
      · rw [if_neg (by rw [decide_eq_false h2,Bool.false_and];decide)]
        exact Evn.pos (by omega) (Evn.ret _)
    · rw [if_neg h1]
      exact Evn.pos (by omega) (Evn.ret _)
theorem fewA_true (l:List Att) (h:fewA l=true):l.length≤41∧∀ x∈l,x.f0.size≤200∧x.f1.f2.size≤500:=by
  obtain ⟨h1,h2⟩:=fewS_true _ l 0 h
  refine ⟨?_,fun x hx=>?_⟩
  · rcases h1 with rfl|h1
    · exact Nat.zero_le _
    · omega
  · have:=h2 x hx
    rw [Bool.and_eq_true,decide_eq_true_eq,decide_eq_true_eq] at this
    exact this
theorem refsA_ev (l:List Att) (hl:l.length<1000000):Evn (fun k=>L04_Attrs.f k l) (l.map toAR):=by
  have h:∀ (post pre:List Att),l=pre++post→True→Evn (fun k=>L04_Attrs.l0 k l (pre.map toAR) (pre.length:Int)) (l.map toAR):=by
    intro post
    induction post with
    | nil=>
      intro pre e _
      rw [List.append_nil] at e
      subst e
      exact Evn.step (fun k=>L04_Attrs.l0.eq_2 ..) (Evn.neg (by omega) (Evn.ret _))
    | cons x post ih=>
      intro pre e _
      have hlt:(pre.length:Int)<(l.length:Int):=by rw [e];exact ltp pre x post
      have hrd:rd_T76 l (pre.length:Int)=x:=by rw [e];exact getDp pre x post _
      have:=ih (pre++[x]) (by rw [e,List.append_assoc];rfl) trivial
      rw [List.map_append] at this
      refine Evn.step (fun k=>L04_Attrs.l0.eq_2 ..) (Evn.pos hlt (Evn.pos (Int.natCast_nonneg _) (Evn.pos (by rw [List.length_map];omega) ?_)))
      rw [hrd,w1p pre x (by omega)]
      exact this
  exact h l [] rfl trivial
set_option maxRecDepth 100000 in
theorem awake5_at (k:Nat):L05_awake.f (k+80)=some true:=by kernel_rfl
theorem awake5:Evn (fun k=>L05_awake.f k) true:=Evn.of 80 (fun k h=>by
  obtain ⟨m,rfl⟩:=Nat.le.dest h
  rw [Nat.add_comm]
  exact awake5_at m)
end Go.Proofs.YtpjjbaclphoilaaGreatDoor.U8
namespace Go.Proofs.YtpjjbaclphoilaaGreatDoor.Pure
open Go.RowKit Go.Proofs.YtpjjbaclphoilaaGreatDoor.A Go.Proofs.YtpjjbaclphoilaaGreatDoor.U8 Go.Proofs.YtpjjbaclphoilaaGreatDoorW.PrintWords Go.Proofs.YtpjjbaclphoilaaGreatDoorW.PrintLast Go.Lib
set_option linter.unusedVariables false
set_option linter.unusedSimpArgs false
def fitsE (t:Typ) (ty:ByteArray) (a:List Att):Int:=if checkT t=true then (if sameB t.f0 ty=true then fitsI t.f3 a else 4) else 1
theorem fitsE_q (t:Typ) (h:OkT t) (e0 e1 e2:Int) (ty:ByteArray) (hty:ty.size<90000) (a:List Att) (hsa:∀ x∈a,x.f0.size<20000) (hla:a.length<100000):Evn (fun k=>forest_Fits.f k t.f0 t.f1 t.f2 t.f3 t.f4 t.f5.f0 t.f5.f1 t.f5.f2 e0 e1 e2 ty a) (fitsE t ty a):=by
  unfold fitsE
  refine Evn.bind (checkT_q t h) ?_
  by_cases h1:checkT t=true
  · refine Evn.val (if_pos h1).symm (Evn.pos h1 (Evn.bc (nameSame_q t.f0 ty (by have:=h.n0;omega) hty) ?_))
    by_cases h2:sameB t.f0 ty=true
    · exact Evn.val (if_pos h2).symm (Evn.pos h2 (Evn.bind (fits_q t.f3 a h.a (by have:=h.al;omega) hsa hla) (Evn.ret _)))
    · exact Evn.val (if_neg h2).symm (Evn.neg h2 (Evn.ret _))
  · exact Evn.val (if_neg h1).symm (Evn.neg h1 (Evn.ret _))
theorem fitsE_r (t:Typ) (h:OkT t) (ty:ByteArray) (hty:ty.size<90000) (a:List Att) (hsa:∀ x∈a,x.f0.size<20000) (hla:a.length<100000):Evn (fun k=>R05_Fits.f k t.f0 t.f1 (t.f2.map toR) (t.f3.map toR) t.f4 t.f5.f0 t.f5.f1 t.f5.f2 ty (a.map toAR)) (fitsE t ty a):=by
  unfold fitsE
  refine Evn.bind (checkT_r t h) ?_
  by_cases h1:checkT t=true
  · refine Evn.val (if_pos h1).symm (Evn.pos h1 (Evn.bind (alikeR_ev t.f0 ty (by have:=h.n0;omega) hty) ?_))
    by_cases h2:sameB t.f0 ty=true
    · exact Evn.val (if_pos h2).symm (Evn.pos h2 (Evn.bind (fits_r t.f3 a h.a (by have:=h.al;omega) hsa hla) (Evn.ret _)))
    · exact Evn.val (if_neg h2).symm (Evn.neg h2 (Evn.ret _))
  · exact Evn.val (if_neg h1).symm (Evn.neg h1 (Evn.ret _))
theorem fitsA_less (a S:List Fld) (x:List Att) (hS:checkF S=true) (hsub:∀ f∈a,f∈S) (hM:fitsM x S=0→fitsM x a=0):∀ xs:List Att,(∀ y∈xs,(findF a y.f0).isSome=true)→fitsA S x xs=0→fitsA a x xs=0
  | [],_,h=>hM h
  | y :: ys,hx,h=>by
    rw [fitsA] at h ⊢
    cases hq:findF a y.f0 with
    | none=>have:=hx y (List.mem_cons_self ..);rw [hq] at this;cases this
    | some f=>
      have hf:sameB f.f0 y.f0=true:=List.find?_some (p:=fun z:Fld=>sameB z.f0 y.f0) hq
      rw [find_own S hS f (hsub f (find_mem a y.f0 f hq)) y.f0 hf] at h
      dsimp only at h ⊢
      by_cases hk:f.f1=y.f1.f0
      · rw [if_pos hk] at h ⊢
        exact fitsA_less a S x hS hsub hM ys (fun z hz=>hx z (List.mem_cons_of_mem _ hz)) h
      · rw [if_neg hk] at h;cases h
theorem fits_parent (l:List Typ) (hB:isB l=true) (t o:Typ) (ht:t∈l) (ho:o∈l) (hs:sameB o.f0 t.f1=true) (x:List Att) (ty:ByteArray) (h:fitsE t ty x=0) (hx:∀ y∈x,(findF o.f3 y.f0).isSome=true):fitsE o o.f0 x=0:=by
  obtain ⟨b1,b2,b3⟩:=isB_open hB
  have ct:=b1 t ht
  have co:=b1 o ho
  have hne:t.f1.toList≠([]:List UInt8):=fun he=>by
    rw [show t.f1=⟨#[]⟩ from toL_inj (he.trans ((toList_nil ⟨#[]⟩).2 rfl).symm)] at hs
    exact name_nonempty (checkT_name co) hs
  obtain ⟨o',ho',hbl⟩:=b3 t ht hne
  unfold belowT at hbl
  by_cases h1:sameB o'.f0 t.f1=true
  case neg=>rw [if_neg h1] at hbl;cases hbl
  rw [if_pos h1,if_pos (b1 o' ho')] at hbl
  have he:o=o':=isB_uniq hB ho ho' ((sameB_eq _ _).2 (((sameB_eq _ _).1 hs).trans ((sameB_eq _ _).1 h1).symm))
  subst he
  unfold fitsT at hbl
  generalize (if (t.f4.drop 1).length=o.f4.length then allB (t.f4.drop 1) o.f4 else false)=b at hbl
  cases b with
  | false=>rw [if_neg (by decide)] at hbl;cases hbl
  | true=>
    rw [if_pos rfl] at hbl
    by_cases h2:(mergeI o.f3 t.f2).2=0
    case neg=>rw [if_neg h2] at hbl;cases hbl
    rw [if_pos h2] at hbl
    have hS:=eqF_eq _ _ hbl
    rcases merge_cases o.f3 t.f2 with ⟨e,he,hm,_⟩|⟨_,_,S,hm,_,hp,hck⟩
    · rw [hm] at h2;exact absurd h2 he
    · rw [hm] at hS
      have hS:S=t.f3:=hS
      subst hS
      unfold fitsE at h ⊢
      rw [if_pos ct] at h
      rw [if_pos co,if_pos (sameB_self _)]
      by_cases h3:sameB t.f0 ty=true
      case neg=>rw [if_neg h3] at h;cases h
      rw [if_pos h3] at h
      unfold fitsI at h ⊢
      by_cases hc:(checkF t.f3 && checkA x)=true
      case neg=>rw [if_neg hc] at h;cases h
      rw [if_pos hc] at h
      rw [Bool.and_eq_true] at hc
      rw [if_pos (by rw [(checkT_open co).2.1,hc.2];rfl)]
      refine fitsA_less o.f3 t.f3 x hck (fun f hf=>hp.mem_iff.2 (List.mem_append_left _ hf)) (fun hm=>?_) x hx h
      rw [fitsM_iff] at hm ⊢
      intro f hf h2
      exact hm f (hp.mem_iff.2 (List.mem_append_left _ hf)) h2
theorem fits_loop (l:List Typ) (hB:isB l=true) (t o:Typ) (ht:t∈l) (ho:o∈l) (hs:sameB o.f0 t.f1=true) (a:List Att) (ty:ByteArray) (h:fitsE t ty a=0) (hok:OkT o) (e0 e1 e2:Int) (hsa:∀ x∈a,x.f0.size<20000) (hla:a.length<100000):
    Evn (fun k=>L05_ForestFits.l0 k 0 e0 e1 e2 ty a o.f0 o.f1 o.f2 o.f3 o.f4 o.f5.f0 o.f5.f1 o.f5.f2) true:=by
  refine Evn.loop (g:=fun k i=>L05_ForestFits.l0 k i e0 e1 e2 ty a o.f0 o.f1 o.f2 o.f3 o.f4 o.f5.f0 o.f5.f1 o.f5.f2) a (by omega) (fun pre=>∀ y∈pre,(findF o.f3 y.f0).isSome=true) (fun _ _=>true) ?_ ?_ a [] rfl (fun y hy=>by cases hy)
  · intro hall hn
    refine Evn.step (fun k=>L05_ForestFits.l0.eq_2 ..) (Evn.neg hn (Evn.bind awake5 (Evn.pos rfl (Evn.bind (fitsE_q o hok e0 e1 e2 o.f0 (by have:=hok.n0;omega) a hsa hla) (Evn.con ?_)))))
    rw [fits_parent l hB t o ht ho hs a ty h hall];rfl
  · intro pre x post e hall hlt h0 hw hget hmem ih
    have hrd:rd_T76 a (pre.length:Int)=x:=hget _
    refine Evn.step (fun k=>L05_ForestFits.l0.eq_2 ..) (Evn.pos hlt (Evn.bind (refsF_ev o.f3 (by have:=hok.al;omega)) (Evn.pos h0 ?_)))
    rw [hrd,hw]
    refine Evn.bind (schemaFind_r o.f3 x.f0 hok.a (by have:=hsa x hmem;omega) (by have:=hok.al;omega)) ?_
    unfold atF
    rcases at_find (fun y:Fld=>sameB y.f0 x.f0) o.f3 0 with ⟨h1,h2⟩|⟨p,y,q,e2,h1,h2⟩
    · rw [h1]
      exact Evn.pos (by decide) (Evn.bind awake5 (Evn.ret _))
    · rw [h1]
      refine Evn.neg (by omega) (ih (fun z hz=>?_))
      rcases List.mem_append.1 hz with hz|hz
      · exact hall z hz
      · rw [List.mem_singleton.1 hz]
        show (o.f3.find? (fun y:Fld=>sameB y.f0 x.f0)).isSome=true
        rw [h2];rfl
theorem forestfits_j1 (l:List Typ) (t o:Typ) (a:List Att) (ty:ByteArray) (hok:OkT o) (e0 e1 e2:Int) (hsa:∀ x∈a,x.f0.size<20000) (hla:a.length<100000) (b:Bool) (hb:b=false→isB l=true∧t∈l∧o∈l∧sameB o.f0 t.f1=true∧fitsE t ty a=0):
    Evn (fun k=>L05_ForestFits.j1 k b e0 e1 e2 ty a o.f0 o.f1 o.f2 o.f3 o.f4 o.f5.f0 o.f5.f1 o.f5.f2) true:=by
  refine Evn.step (fun k=>L05_ForestFits.j1.eq_2 ..) ?_
  cases b with
  | true=>exact Evn.pos rfl (Evn.bind awake5 (Evn.ret _))
  | false=>
    obtain ⟨h1,h2,h3,h4,h5⟩:=hb rfl
    exact Evn.neg (by decide) (fits_loop l h1 t o h2 h3 h4 a ty h5 hok e0 e1 e2 hsa hla)
theorem forestfits_j0 (l:List Typ) (hok:∀ t∈l,OkT t) (hl:l.length≤26) (s:ByteArray) (hs:s.size<90000) (e0 e1 e2:Int) (ty:ByteArray) (hty:ty.size<90000) (a:List Att) (hsa:∀ x∈a,x.f0.size<20000) (hla:a.length<100000):
    Evn (fun k=>L05_ForestFits.j0 k l s false e0 e1 e2 ty a) true:=by
  refine Evn.step (fun k=>L05_ForestFits.j0.eq_2 ..) (Evn.neg (by decide) (Evn.bind (refsA_ev a (by omega)) (Evn.bc (findT_q l s hok hs) ?_)))
  obtain ⟨t,b,ht,e,hb⟩:=found_some l s hok
  rw [e]
  refine Evn.bind (fitsE_q t ht e0 e1 e2 ty hty a hsa hla) (Evn.bind (refT_ev t ht) (Evn.bind (fitsE_r t ht ty hty a hsa hla) (Evn.pos rfl (Evn.bc (findT_q l t.f1 hok (by have:=ht.n1;omega)) ?_))))
  obtain ⟨o,u,ho,eu,hu⟩:=found_some l t.f1 hok
  rw [eu]
  have yes:Evn (fun k=>L05_ForestFits.j1 k true e0 e1 e2 ty a o.f0 o.f1 o.f2 o.f3 o.f4 o.f5.f0 o.f5.f1 o.f5.f2) true:=forestfits_j1 l t o a ty ho e0 e1 e2 hsa hla true (fun h=>by cases h)
  show Evn (fun k=>if b=true then (if u=true then _ else _) else _) true
  refine Evn.ite (fun h1=>Evn.ite (fun h2=>Evn.bind (isB_q l hok (by omega)) (Evn.ite (fun h3=>Evn.bind (fitsE_q t ht e0 e1 e2 ty hty a hsa hla) ?_) (fun _=>yes))) (fun _=>yes)) (fun _=>yes)
  refine forestfits_j1 l t o a ty ho e0 e1 e2 hsa hla _ (fun h=>⟨h3,(hb h1).1,(hu h2).1,(hu h2).2,?_⟩)
  rw [bne_eq_false_iff_eq] at h
  exact h
theorem ForestFits (l:List Typ) (n0 n1 n2:Int) (ty:ByteArray) (a:List Att) (s:ByteArray) (hm:l.length≤maxLen) (hw:∀ v∈l,(Lit.int .i64 v.f5.f0).wf=true∧(Lit.int .i64 v.f5.f1).wf=true∧(Lit.int .i64 v.f5.f2).wf=true) (hma:a.length≤maxLen) (hwa:∀ v∈a,(Lit.int .i64 v.f1.f0).wf=true∧(Lit.int .i64 v.f1.f1).wf=true) (hz:s.size≤140737488351232):
    ∃ k,L05_ForestFits.f k l n0 n1 n2 ty a s=some true:=by
  have no:Evn (fun k=>L05_ForestFits.j0 k l s true n0 n1 n2 ty a) true:=Evn.step (fun k=>L05_ForestFits.j0.eq_2 ..) (Evn.pos rfl (Evn.bind awake5 (Evn.ret _)))
  refine Evn.get (g:=fun k=>L05_ForestFits.f k l n0 n1 n2 ty a s) (Evn.bind (fewT_ev l) (Evn.ite (fun h1=>Evn.ite (fun _=>no) (fun h2=>Evn.ite (fun _=>no) (fun h3=>Evn.bind (fewA_ev a) ?_))) (fun _=>no)))
  obtain ⟨_,f2⟩:=fewT_true l 0 h1
  cases hf:fewA a with
  | false=>exact no
  | true=>
    obtain ⟨g1,g2⟩:=fewA_true a hf
    exact forestfits_j0 l f2 (fewT_len l h1) s (by omega) n0 n1 n2 ty (by omega) a (fun x hx=>by have:=(g2 x hx).1;omega) (by omega)
end Go.Proofs.YtpjjbaclphoilaaGreatDoor.Pure
