import Derived.Test.YtpjjbaclphoilaaGreatDoorProg
import Derived.Below
import Derived.Deep.Draws
import Derived.Deep.AppendLies
import Derived.Maps.AppendAt
import Derived.OwnWalk
import Derived.Laws.BytesArg
import Derived.Laws.MakeOwn
import Derived.Laws.OwnMore
import Derived.Deep.OwnRows
import Derived.Tactics
import Derived.Lib.ConvBytes
import Derived.Laws.Slices
import Derived.WalkKit
import Derived.KernelRfl
import Derived.RowKit3
import Derived.Deep.LoopGhost
import Derived.Deep.QuietTactic
import Derived.BigQuiet
import Derived.WideLaws
import Derived.Deep.DeepCutAuto
import Derived.Deep.CutBlock
import Derived.Deep.RegionHeld3
import Derived.Laws.Rows
import Derived.Lib.AppendStr
import Derived.ArgAppend
import Derived.Laws.IdiomCopy
import Derived.OrdersHeld
import Derived.Laws.BitsLemmas
import Derived.RowKit
import Derived.ArgAppend
import Derived.Lib.SlBytesConst
import Derived.Test.YtpjjbaclphoilaaGreatDoorShelf
import Derived.Lib.QuietBelow
import Derived.Lib.AppendIntMem
import Derived.Lib.AtoiErrMem
import Derived.BigCall
import Derived.Deep.RegionWith
import Derived.Lib.TrimU
import Derived.Laws.Cover1
import Derived.Laws.IdiomStrings
import Derived.Shelf.SlicesQ.IndexFunc
import Derived.Laws.Runes
import Derived.Laws.Cover4
import Derived.Test.YtpjjbaclphoilaaGreatDoorWWords
import Derived.Test.YtpjjbaclphoilaaGreatDoorWLast
import Derived.Test.YtpjjbaclphoilaaGreatDoorWTab
import Derived.Test.YtpjjbaclphoilaaGreatDoorWQPut
import Derived.Test.YtpjjbaclphoilaaGreatDoorWApart
import Derived.Test.YtpjjbaclphoilaaGreatDoorWArr
import Derived.Test.YtpjjbaclphoilaaGreatDoorWZeros
import Derived.Test.YtpjjbaclphoilaaGreatDoorWFoot
import Derived.Test.YtpjjbaclphoilaaGreatDoorWKept
import Derived.Test.YtpjjbaclphoilaaGreatDoorWShare
import Derived.Test.YtpjjbaclphoilaaGreatDoorWN
import Derived.Test.YtpjjbaclphoilaaGreatDoorWEqStruct
import Derived.Test.YtpjjbaclphoilaaGreatDoorWRepsOne
import Derived.Test.YtpjjbaclphoilaaGreatDoorWGuard
import Derived.Test.YtpjjbaclphoilaaGreatDoorWNEv
import Derived.Test.YtpjjbaclphoilaaGreatDoorWMore
namespace Go.Proofs.YtpjjbaclphoilaaGreatDoor.A
open Go.RowKit Go.Proofs.YtpjjbaclphoilaaGreatDoorW.PrintWords Go.Proofs.YtpjjbaclphoilaaGreatDoorW.PrintLast Go.Proofs.YtpjjbaclphoilaaGreatDoorW.PrintMore
attribute [local go_sem] max2_int min2_int max_two min_two max_three min_three max_four min_four   -- for this text's walks alone
set_option linter.unusedVariables false
set_option linter.unusedSimpArgs false
def errW:Option Int→Value
 | none=>.nilIface
 | some c=>.iface 0 (.int .i64 c)
theorem errW_none:errW none=.nilIface:=rfl
theorem errW_some (c:Int):errW (some c)=.iface 0 (.int .i64 c):=rfl
theorem bwA {w W:World} (h:Below w.heap.size w W:=by repeat (first|(with_reducible first|exact HB.out|apply below_alloc|apply pw_below_drewN|apply below_drew1|refine below_set ?_ (Aside0.out (by with_reducible assumption)))|exact HB.out)):Below w.heap.size w W:=h
theorem blkA {w:World} {g:Nat} {o:Obj} (h:w.heap[g]? = some o:=by (with_reducible repeat (first|refine blk_drewN ?_ _|refine blk_drew ?_|refine blk_alloc ?_ _));exact Aside0.out (by with_reducible assumption)):w.heap[g]? = some o:=h
section
variable {P:Program} {ops:Array Oper} {Q:Exit→Act→World→Prop}
theorem goesA {rest:List Oper} {oi:Oper} {a:Act} {w:World} (N:Option Tmp) {f:FuncId} {fn:Func} {ao:Array Operand} {ts:Array TypeId} (hf:P.funcs[f]? = some fn) (args:Array Value)
    (h:Calls P f args w fun e w'=>∃ v,e=.returned v∧wpList P ops Q rest (a.put N v) w') (hd:oi.dst=N:=by rfl) (hg:oi.guard=none:=by rfl) (hname:(fn.name == "runtime.NumGoroutine")=false:=by kernel_rfl) (hb:fn.body.isSome=true:=by rfl)
    (hop:oi.op=.call { callee:=.value (.func f),args:=ao,argTypes:=ts }:=by rfl) (hargs:ao.map a.eval=args:=by (try simp only [List.map_toArray,List.map_cons,List.map_nil]);first|done|rfl|(simp only [List.length_drop,List.length_take];rfl)):wpList P ops Q (oi :: rest) a w:=
  goesL_ N hd hg hf hname hb args hop hargs h
end
theorem endA {p:Prop} (h:p:=by first|rfl|(rw [ne_nil_b];(first|done|rfl))|(simp [errW_none,errW_some]<;>rfl)|(simp [*,errW_none,errW_some]<;>rfl)):p:=h
theorem endS {p:Prop} (h:p:=by first|rfl|(simp;done)|(simp [*];done)|(simp [wrap64];done)):p:=h
theorem drA {p:Prop} (h:p:=by repeat (first|exact Drawn0.refl _|apply Drawn0.step)):p:=h
theorem odA {p:Prop} [Decidable p] (h:decide p=true:=by first|(with_reducible assumption)|assumption):p:=of_decide_eq_true h
theorem crA {w W:World} {p:Addr} {v:Value} (h:w.cell? p=some v) (hb:Below w.heap.size w W:=by exact HB.out):W.cell? p=some v:=(hb.cell (World.block_lt_of_cell? w _ h)).trans h
def mkB (n b:Nat):Array Bool:=((List.range n).map fun i=>b.testBit i).toArray
section
variable {P:Program} {md:Region.Mode} {ops:Array Oper} {Q:Exit→Act→World→Prop} {S:World→Prop} {ds:List Nat}
theorem pureA {oi:Oper} {v:Value} {fuel:Nat} {l:Array Bool} {a a':Act} {w:World} (i:Nat) (N:Option Tmp) (l':Array Bool) (h:wpAnyLast P md ops Q S ds fuel l' a' w)
    (hi:ops[i]? = some oi:=by rfl) (hN:oi.dst=N:=by rfl) (hc:anyB md ops l l' i=true:=by exact any_of HT_.out (by kernel_rfl)) (hQ:∀ c a w,Q (.panic c) (a.put oi.dst v) w→Q (.panic c) a w:=by exact fun _ _ _ h=>h)
    (hy:Yields P ops oi v a:=by refine Or.inl ⟨by rfl,?_⟩;intro w';go_simp;with_reducible rfl) (ha:a.put N v=a':=by simp only [Act.put,List.setIfInBounds_toArray,List.set_cons_zero,List.set_cons_succ,i64_w,i32_w];rfl):wpAnyLast P md ops Q S ds (fuel+1) l a w:=pure_ l' hi hN hc hQ hy ha h
theorem pureU {oi:Oper} {fuel:Nat} {l:Array Bool} {a a':Act} {w:World} (i:Nat) (N:Option Tmp) (l':Array Bool) (h:wpAnyLast P md ops Q S ds fuel l' a' w)
    (hi:ops[i]? = some oi:=by rfl) (hN:oi.dst=N:=by rfl) (hc:anyB md ops l l' i=true:=by exact any_of HT_.out (by kernel_rfl)) (hQ:∀ c a w,Q (.panic c) (a.put oi.dst undef) w→Q (.panic c) a w:=by exact fun _ _ _ h=>h)
    (hy:Yields P ops oi undef a:=by exact Or.inr ⟨by rfl,rfl⟩) (ha:a.put N undef=a':=by simp only [Act.put,List.setIfInBounds_toArray,List.set_cons_zero,List.set_cons_succ,i64_w,i32_w];rfl):wpAnyLast P md ops Q S ds (fuel+1) l a w:=pure_ l' hi hN hc hQ hy ha h
theorem takeA {oi:Oper} {v:Value} {fuel:Nat} {l:Array Bool} {a a':Act} {w:World} (i:Nat) (N:Option Tmp) (l':Array Bool) (h:wpAnyLast P md ops Q S ds fuel l' a' w)
    (hi:ops[i]? = some oi) (hy:YieldsIf P ops S oi v a) (hN:oi.dst=N:=by rfl) (hc:takeB md ops ds l l' i=true:=by exact take_ofW HT_.out HW_.out (by kernel_rfl)) (hQ:∀ c a w,Q (.panic c) (a.put oi.dst v) w→Q (.panic c) a w:=by exact fun _ _ _ h=>h)
    (hS:S w:=by exact hHeld) (ha:a.put N v=a':=by simp only [Act.put,List.setIfInBounds_toArray,List.set_cons_zero,List.set_cons_succ,i64_w,i32_w];rfl):wpAnyLast P md ops Q S ds (fuel+1) l a w:=take_ l' hi hN hc hQ hy hS ha h
theorem oneA {oi:Oper} {fuel:Nat} {l:Array Bool} {a:Act} {w:World} (i:Nat) (N:Option Tmp) (l':Array Bool)
    (h:∀ K:Act→World→Prop,Shut (∀ a' w',S w'→(S w'→wpAnyLast P md ops Q S ds fuel l' a' w')→K a' w')→if Region.wanted oi (yielded ops a.tmps)=true then Oper.wp P oi a w K Q else K (a.put N undef) w)
    (hi:ops[i]? = some oi:=by rfl) (hN:oi.dst=N:=by rfl) (hc:readyB md ops l l' i=true:=by exact one_of HT_.out (by kernel_rfl)) (hd:i ∉ ds:=by decide):wpAnyLast P md ops Q S ds (fuel+1) l a w:=one_ l' hi hN hc hd h
theorem normA {fuel:Nat} {l:Array Bool} {a a':Act} {w:World} (h:wpAnyLast P md ops Q S ds fuel l a' w) (ha:a=a':=by (show Act.put _ _ _=_);simp only [Act.put,List.setIfInBounds_toArray,List.set_cons_zero,List.set_cons_succ,i64_w,i32_w];rfl):wpAnyLast P md ops Q S ds fuel l a w:=norm_ ha h
end
theorem raA {α:Type} {d:Kd α} {e:Nat} {w w1:World} {base:Nat} {ok:Nat→Prop} {v:Value} {xs:List α} (h:d.R e w base ok v xs) (hb:Below w.heap.size w w1:=by (with_reducible repeat (first|apply below_alloc|apply pw_below_drewN|apply below_drew1));exact Below.refl _ _):d.R e w1 base ok v xs:=Kd.R_below h hb
theorem blkP {w w1:World} {g T:Nat} {cs cs':Array Value} (h:w.heap[g]? = some (.cells cs T (0,0))) (i:Nat) (v:Value) (hb:Below (w.setCell ⟨g,i,none⟩ v).heap.size (w.setCell ⟨g,i,none⟩ v) w1:=by (with_reducible repeat (first|apply below_alloc|apply pw_below_drewN|apply below_drew1));exact Below.refl _ _) (e:cs.setIfInBounds i v=cs':=by rfl):w1.heap[g]? = some (.cells cs' T (0,0)):=blk_below (blk_put h i v e) hb
theorem celA {w:World} {g T:Nat} {cs:Array Value} (h:w.heap[g]? = some (.cells cs T (0,0))) (j:Nat) (v:Value) (e:cs[j]? = some v:=by rfl):w.cell? ⟨g,j,none⟩=some v:=(blk_cell h j).trans e
section
variable {P:Program} {ops:Array Oper} {Q:Exit→Act→World→Prop}
theorem boxA {rest:List Oper} {o:Oper} {a:Act} {W:World} (N:Tmp) (cs:Array Value) (t:TypeId)
  (h:∀ g,g=W.heap.size→∀ w1,w1.heap[g]? = some (.cells cs t (0,0))→Below W.heap.size W w1→wpList P ops Q rest (a.put o.dst (.pointer (some ⟨g,0,none⟩))) w1)
  (hd:o.dst=some N:=by rfl) (hg:o.guard=none:=by rfl) (hr:(execOp a.eval o).run P W=.ok (.value (.pointer (some ⟨W.heap.size,0,none⟩))) (W.alloc (.cells cs t (0,0))):=by first|(go_simp;done)|(go_simp;rfl)):wpList P ops Q (o :: rest) a W:=box_event hg hd hr h
end
theorem bnA {α β:Type} {x:Option α} {g:α→Option β} {r:β} (h:x.bind g=some r):∃ t,Aside0 (x=some t)∧g t=some r:=by
 obtain ⟨t,h1,h2⟩:=Option.bind_eq_some_iff.mp h;exact ⟨t,Aside0.mk h1,h2⟩
theorem itR {α:Type} {c:Prop} {inst:Decidable c} {a b:Option α} {r:α} {G:Prop} (hp:c→a=some r→G) (hn:¬c→b=some r→G):(@ite _ c inst a b)=some r→G:=by
 intro h;by_cases k:c
 ·exact hp k (by rw [if_pos k] at h;exact h)
 ·exact hn k (by rw [if_neg k] at h;exact h)
theorem itN {α:Type} {c:Prop} {inst:Decidable c} {a:Option α} {r:α} (h:(@ite _ c inst a none)=some r):c∧a=some r:=by
 by_cases k:c
 ·exact ⟨k,by rw [if_pos k] at h;exact h⟩
 ·rw [if_neg k] at h;cases h
theorem itM {α:Type} {c:Prop} {inst:Decidable c} {a:Option α} {r:α} (h:(@ite _ c inst none a)=some r):¬c∧a=some r:=by
 by_cases k:c
 ·rw [if_pos k] at h;cases h
 ·exact ⟨k,by rw [if_neg k] at h;exact h⟩
theorem stopA {G:Prop} (roundEnd:G) (other:True):G:=roundEnd
theorem frB {w0 W:World} {g:Nat} {o:Obj} (h0:Aside0 (w0.heap[g]? = some o)) (k:Nat) (hn:W.heap.size≤k) (h:W.heap[g]? = some o:=by exact blkA):k≠g:=Kd.freshB h k hn
theorem rf8 {α:Type} {d:Kd α} {e:Nat} {w:World} {base:Nat} {ok:Nat→Prop} {v:Value} {xs:List α} {g:Nat} (h:d.R e w base ok v xs) (hok:∀ k,ok k→k≠g) (v0 v1 v2 v3 v4 v5 v6 v7:Value):d.R e ((((((((w.setCell ⟨g,0,none⟩ v0).setCell ⟨g,1,none⟩ v1).setCell ⟨g,2,none⟩ v2).setCell ⟨g,3,none⟩ v3).setCell ⟨g,4,none⟩ v4).setCell ⟨g,5,none⟩ v5).setCell ⟨g,6,none⟩ v6).setCell ⟨g,7,none⟩ v7) base ok v xs:=(Kd.R_far (p:=⟨g,7,none⟩) (Kd.R_far (p:=⟨g,6,none⟩) (Kd.R_far (p:=⟨g,5,none⟩) (Kd.R_far (p:=⟨g,4,none⟩) (Kd.R_far (p:=⟨g,3,none⟩) (Kd.R_far (p:=⟨g,2,none⟩) (Kd.R_far (p:=⟨g,1,none⟩) (Kd.R_far (p:=⟨g,0,none⟩) h hok v0) hok v1) hok v2) hok v3) hok v4) hok v5) hok v6) hok v7)
theorem sf8 {α:Type} {d:Kd α} {e:Nat} {w:World} {base:Nat} {ok:Nat→Prop} {v:Value} {xs:List α} {g:Nat} (h:Kd.S d e w base ok v xs) (hok:∀ k,ok k→k≠g) (v0 v1 v2 v3 v4 v5 v6 v7:Value):Kd.S d e ((((((((w.setCell ⟨g,0,none⟩ v0).setCell ⟨g,1,none⟩ v1).setCell ⟨g,2,none⟩ v2).setCell ⟨g,3,none⟩ v3).setCell ⟨g,4,none⟩ v4).setCell ⟨g,5,none⟩ v5).setCell ⟨g,6,none⟩ v6).setCell ⟨g,7,none⟩ v7) base ok v xs:=(Kd.S_far (p:=⟨g,7,none⟩) (Kd.S_far (p:=⟨g,6,none⟩) (Kd.S_far (p:=⟨g,5,none⟩) (Kd.S_far (p:=⟨g,4,none⟩) (Kd.S_far (p:=⟨g,3,none⟩) (Kd.S_far (p:=⟨g,2,none⟩) (Kd.S_far (p:=⟨g,1,none⟩) (Kd.S_far (p:=⟨g,0,none⟩) h hok v0) hok v1) hok v2) hok v3) hok v4) hok v5) hok v6) hok v7)
theorem vf8 {α:Type} {d:Kd α} {e:Nat} {w:World} {base:Nat} {ok:Nat→Prop} {v:Value} {xs:List α} {g:Nat} (h:Kd.V d e w base ok v xs) (hok:∀ k,ok k→k≠g) (v0 v1 v2 v3 v4 v5 v6 v7:Value):Kd.V d e ((((((((w.setCell ⟨g,0,none⟩ v0).setCell ⟨g,1,none⟩ v1).setCell ⟨g,2,none⟩ v2).setCell ⟨g,3,none⟩ v3).setCell ⟨g,4,none⟩ v4).setCell ⟨g,5,none⟩ v5).setCell ⟨g,6,none⟩ v6).setCell ⟨g,7,none⟩ v7) base ok v xs:=(Kd.V_far (p:=⟨g,7,none⟩) (Kd.V_far (p:=⟨g,6,none⟩) (Kd.V_far (p:=⟨g,5,none⟩) (Kd.V_far (p:=⟨g,4,none⟩) (Kd.V_far (p:=⟨g,3,none⟩) (Kd.V_far (p:=⟨g,2,none⟩) (Kd.V_far (p:=⟨g,1,none⟩) (Kd.V_far (p:=⟨g,0,none⟩) h hok v0) hok v1) hok v2) hok v3) hok v4) hok v5) hok v6) hok v7)
theorem fcE {α:Type} [BEq α] [LawfulBEq α] {a b:α} (h:a=b):(a == b)=true∧(a != b)=false:=⟨beq_iff_eq.mpr h,bne_eq_false_iff_eq.mpr h⟩
theorem fcN {α:Type} [BEq α] [LawfulBEq α] {a b:α} (h:¬a=b):(a == b)=false∧(a != b)=true:=⟨beq_eq_false_iff_ne.mpr h,bne_iff_ne.mpr h⟩
theorem gtT {a b:Int} (h:a>b):decide (b<a)=true:=decide_eq_true h
theorem gtF {a b:Int} (h:¬ a>b):decide (b<a)=false:=decide_eq_false h
theorem geT {a b:Int} (h:a≥b):decide (b≤a)=true:=decide_eq_true h
theorem geF {a b:Int} (h:¬ a≥b):decide (b≤a)=false:=decide_eq_false h
theorem ltT {a b:Int} (h:a<b):decide (a<b)=true:=decide_eq_true h
section
variable {P:Program} {md:Region.Mode} {ops:Array Oper} {Q:Exit→Act→World→Prop}
theorem goesS {oi:Oper} {N:Option Tmp} {a:Act} {w:World} {K:Act→World→Prop} {f:FuncId} {fn:Func} {ao:Array Operand} {ts:Array TypeId} (hf:P.funcs[f]? = some fn) (args:Array Value)
  (h:Calls P f args w fun e w'=>∃ v,e=.returned v∧K (a.put N v) w') (hname:(fn.name == "runtime.NumGoroutine")=false:=by kernel_rfl) (hb:fn.body.isSome=true:=by rfl) (hw:Region.wanted oi (yielded ops a.tmps)=true:=by rfl) (hN:oi.dst=N:=by rfl)
  (hop:oi.op=.call { callee:=.value (.func f),args:=ao,argTypes:=ts }:=by rfl) (hargs:ao.map a.eval=args:=by (try simp only [List.map_toArray,List.map_cons,List.map_nil]);first|done|rfl|(simp only [List.length_drop,List.length_take];rfl)):if Region.wanted oi (yielded ops a.tmps)=true then Oper.wp P oi a w K Q else K (a.put N undef) w:=
 goes_ hf hname hb args hw hN hop hargs h
theorem hgW {w W:World} {g:Nat} (hg:g=W.heap.size) (hb:Below w.heap.size w W:=by exact bwA):w.heap.size≤g:=by rw [hg];exact below_size hb
theorem hgL {w0 W:World} {g g2:Nat} {o:Obj} (hg:g2=W.heap.size) (h0:Aside0 (w0.heap[g]? = some o)) (h:W.heap[g]? = some o:=by exact blkA):g≠g2:=by rw [hg];exact Nat.ne_of_lt (blk_lt h)
theorem hgG {w0 W:World} {g g2:Nat} {o:Obj} (hg:g2=W.heap.size) (h0:Aside0 (w0.heap[g]? = some o)) (h:W.heap[g]? = some o:=by exact blkA):g2≠g:=by rw [hg];exact Nat.ne_of_gt (blk_lt h)
end
theorem bkB {w0 W w1:World} {g:Nat} {o:Obj} (h0:Aside0 (w0.heap[g]? = some o)) (hb:Below W.heap.size W w1) (h:W.heap[g]? = some o:=by (with_reducible repeat (first|refine blk_drewN ?_ _|refine blk_drew ?_|refine blk_alloc ?_ _));exact Aside0.out (by with_reducible assumption)):w1.heap[g]? = some o:=blk_below h hb
theorem cel2 {w:World} {g T:Nat} {v0 v1:Value} (h:w.heap[g]? = some (.cells #[v0,v1] T (0,0))):w.cell? ⟨g,0,none⟩=some v0∧w.cell? ⟨g,1,none⟩=some v1:=⟨(blk_cell h 0).trans rfl,(blk_cell h 1).trans rfl⟩
theorem frz2 {w:World} {g T:Nat} {v0 v1:Value} (h:w.heap[g]? = some (.cells #[v0,v1] T (0,0))):w.frozen? ⟨g,0,none⟩=false∧w.frozen? ⟨g,1,none⟩=false:=⟨blk_frozen h 0,blk_frozen h 1⟩
theorem cel3 {w:World} {g T:Nat} {v0 v1 v2:Value} (h:w.heap[g]? = some (.cells #[v0,v1,v2] T (0,0))):w.cell? ⟨g,0,none⟩=some v0∧w.cell? ⟨g,1,none⟩=some v1∧w.cell? ⟨g,2,none⟩=some v2:=⟨(blk_cell h 0).trans rfl,(blk_cell h 1).trans rfl,(blk_cell h 2).trans rfl⟩
theorem frz3 {w:World} {g T:Nat} {v0 v1 v2:Value} (h:w.heap[g]? = some (.cells #[v0,v1,v2] T (0,0))):w.frozen? ⟨g,0,none⟩=false∧w.frozen? ⟨g,1,none⟩=false∧w.frozen? ⟨g,2,none⟩=false:=⟨blk_frozen h 0,blk_frozen h 1,blk_frozen h 2⟩
theorem cel4 {w:World} {g T:Nat} {v0 v1 v2 v3:Value} (h:w.heap[g]? = some (.cells #[v0,v1,v2,v3] T (0,0))):w.cell? ⟨g,0,none⟩=some v0∧w.cell? ⟨g,1,none⟩=some v1∧w.cell? ⟨g,2,none⟩=some v2∧w.cell? ⟨g,3,none⟩=some v3:=⟨(blk_cell h 0).trans rfl,(blk_cell h 1).trans rfl,(blk_cell h 2).trans rfl,(blk_cell h 3).trans rfl⟩
theorem frz4 {w:World} {g T:Nat} {v0 v1 v2 v3:Value} (h:w.heap[g]? = some (.cells #[v0,v1,v2,v3] T (0,0))):w.frozen? ⟨g,0,none⟩=false∧w.frozen? ⟨g,1,none⟩=false∧w.frozen? ⟨g,2,none⟩=false∧w.frozen? ⟨g,3,none⟩=false:=⟨blk_frozen h 0,blk_frozen h 1,blk_frozen h 2,blk_frozen h 3⟩
theorem cel5 {w:World} {g T:Nat} {v0 v1 v2 v3 v4:Value} (h:w.heap[g]? = some (.cells #[v0,v1,v2,v3,v4] T (0,0))):w.cell? ⟨g,0,none⟩=some v0∧w.cell? ⟨g,1,none⟩=some v1∧w.cell? ⟨g,2,none⟩=some v2∧w.cell? ⟨g,3,none⟩=some v3∧w.cell? ⟨g,4,none⟩=some v4:=⟨(blk_cell h 0).trans rfl,(blk_cell h 1).trans rfl,(blk_cell h 2).trans rfl,(blk_cell h 3).trans rfl,(blk_cell h 4).trans rfl⟩
theorem frz5 {w:World} {g T:Nat} {v0 v1 v2 v3 v4:Value} (h:w.heap[g]? = some (.cells #[v0,v1,v2,v3,v4] T (0,0))):w.frozen? ⟨g,0,none⟩=false∧w.frozen? ⟨g,1,none⟩=false∧w.frozen? ⟨g,2,none⟩=false∧w.frozen? ⟨g,3,none⟩=false∧w.frozen? ⟨g,4,none⟩=false:=⟨blk_frozen h 0,blk_frozen h 1,blk_frozen h 2,blk_frozen h 3,blk_frozen h 4⟩
theorem cel8 {w:World} {g T:Nat} {v0 v1 v2 v3 v4 v5 v6 v7:Value} (h:w.heap[g]? = some (.cells #[v0,v1,v2,v3,v4,v5,v6,v7] T (0,0))):w.cell? ⟨g,0,none⟩=some v0∧w.cell? ⟨g,1,none⟩=some v1∧w.cell? ⟨g,2,none⟩=some v2∧w.cell? ⟨g,3,none⟩=some v3∧w.cell? ⟨g,4,none⟩=some v4∧w.cell? ⟨g,5,none⟩=some v5∧w.cell? ⟨g,6,none⟩=some v6∧w.cell? ⟨g,7,none⟩=some v7:=⟨(blk_cell h 0).trans rfl,(blk_cell h 1).trans rfl,(blk_cell h 2).trans rfl,(blk_cell h 3).trans rfl,(blk_cell h 4).trans rfl,(blk_cell h 5).trans rfl,(blk_cell h 6).trans rfl,(blk_cell h 7).trans rfl⟩
theorem frz8 {w:World} {g T:Nat} {v0 v1 v2 v3 v4 v5 v6 v7:Value} (h:w.heap[g]? = some (.cells #[v0,v1,v2,v3,v4,v5,v6,v7] T (0,0))):w.frozen? ⟨g,0,none⟩=false∧w.frozen? ⟨g,1,none⟩=false∧w.frozen? ⟨g,2,none⟩=false∧w.frozen? ⟨g,3,none⟩=false∧w.frozen? ⟨g,4,none⟩=false∧w.frozen? ⟨g,5,none⟩=false∧w.frozen? ⟨g,6,none⟩=false∧w.frozen? ⟨g,7,none⟩=false:=⟨blk_frozen h 0,blk_frozen h 1,blk_frozen h 2,blk_frozen h 3,blk_frozen h 4,blk_frozen h 5,blk_frozen h 6,blk_frozen h 7⟩
theorem sJ2 {α0 α1:Type} {a0 b0:α0} {a1 b1:α1} (h:some (a0,a1)=some (b0,b1)):a0=b0∧a1=b1:=by
 simp only [Option.some.injEq,Prod.mk.injEq] at h;exact h
theorem sJ9 {α0 α1 α2 α3 α4 α5 α6 α7 α8:Type} {a0 b0:α0} {a1 b1:α1} {a2 b2:α2} {a3 b3:α3} {a4 b4:α4} {a5 b5:α5} {a6 b6:α6} {a7 b7:α7} {a8 b8:α8} (h:some (a0,a1,a2,a3,a4,a5,a6,a7,a8)=some (b0,b1,b2,b3,b4,b5,b6,b7,b8)):a0=b0∧a1=b1∧a2=b2∧a3=b3∧a4=b4∧a5=b5∧a6=b6∧a7=b7∧a8=b8:=by
 simp only [Option.some.injEq,Prod.mk.injEq] at h;exact h
theorem bsG {α β:Type} {x:α} {g:α→Option β} {r:β} (h:(some x).bind g=some r):∃ y,Aside0 (y=x)∧g y=some r:=⟨x,⟨rfl⟩,h⟩
theorem itQ {α β:Type} [BEq β] [LawfulBEq β] {x y:β} {inst:Decidable (x=y)} {a b:Option α} {r:α} {G:Prop} (hp:(x == y)=true∧(x != y)=false→a=some r→G) (hn:(x == y)=false∧(x != y)=true→¬x=y→b=some r→G):(@ite _ (x=y) inst a b)=some r→G:=
 itR (fun k=>hp (fcE k)) (fun k=>hn (fcN k) k)
theorem bE0 {w:World} {g T:Nat} {cs':Array Value} (h:∃ cs,w.heap[g]? = some (.cells cs T (0,0))∧cs=cs'):w.heap[g]? = some (.cells cs' T (0,0)):=by
 obtain ⟨cs,h1,rfl⟩:=h;exact h1
section
variable {w:World} {g T:Nat} {Q:Array Value→Prop}
theorem bEp {i:Nat} {u:Value} (h:∃ cs,w.heap[g]? = some (.cells cs T (0,0))∧Q (cs.setIfInBounds i u)):∃ cs,(w.setCell ⟨g,i,none⟩ u).heap[g]? = some (.cells cs T (0,0))∧Q cs:=by
 obtain ⟨cs,h1,h2⟩:=h;exact ⟨_,blk_put h1 i u rfl,h2⟩
theorem bEf {g' i:Nat} {u:Value} (hp:Aside0 (g≠g')) (h:∃ cs,w.heap[g]? = some (.cells cs T (0,0))∧Q cs):∃ cs,(w.setCell ⟨g',i,none⟩ u).heap[g]? = some (.cells cs T (0,0))∧Q cs:=by
 obtain ⟨cs,h1,h2⟩:=h;exact ⟨cs,blk_far h1 hp.out u,h2⟩
theorem bEn {n:Nat} (h:∃ cs,w.heap[g]? = some (.cells cs T (0,0))∧Q cs):∃ cs,(w.drewN n).heap[g]? = some (.cells cs T (0,0))∧Q cs:=by
 obtain ⟨cs,h1,h2⟩:=h;exact ⟨cs,blk_drewN h1 n,h2⟩
theorem bEb {cs:Array Value} (h:Aside0 (w.heap[g]? = some (.cells cs T (0,0)))) (q:Q cs):∃ cs,w.heap[g]? = some (.cells cs T (0,0))∧Q cs:=⟨cs,h.out,q⟩
end
theorem blkZ {w1:World} {g T:Nat} {cs':Array Value} (h:w1.heap[g]? = some (.cells cs' T (0,0)):=by refine bE0 ?_;(with_reducible repeat (first|refine bEb (by assumption) ?_|refine bEn ?_|refine bEd ?_|refine bEa ?_|refine bEf (by assumption) ?_|refine bEp ?_));first|(with_reducible rfl)|rfl|(refine bEb (by assumption) ?_;rfl)):w1.heap[g]? = some (.cells cs' T (0,0)):=h
section
variable {P:Program} {ops:Array Oper} {Q:Exit→Act→World→Prop}
theorem boxB {rest:List Oper} {o:Oper} {a:Act} {W w w0:World} (N:Tmp) (cs:Array Value) (t:TypeId) (_h0:Aside0 (Below w.heap.size w w0))
  (h:∀ g w1,Aside0 (w1.heap[g]? = some (.cells cs t (0,0)))→Aside0 (w.heap.size≤g)→Aside0 (w.heap.size≤g)→Aside0 (Below w.heap.size w w1)→wpList P ops Q rest (a.put o.dst (.pointer (some ⟨g,0,none⟩))) w1)
  (hd:o.dst=some N:=by rfl) (hg:o.guard=none:=by rfl) (hr:(execOp a.eval o).run P W=.ok (.value (.pointer (some ⟨W.heap.size,0,none⟩))) (W.alloc (.cells cs t (0,0))):=by first|(go_simp;done)|(go_simp;rfl)) (hb:Below w.heap.size w W:=by exact bwA):wpList P ops Q (o :: rest) a W:=
 boxA N cs t (fun g hg w1 hx hy=>h g w1 ⟨hx⟩ ⟨hgW hg hb⟩ ⟨hgW hg hb⟩ ⟨below_step hb hy⟩) hd hg hr
end
structure Tabs (w:World):Prop where
 u8:Lib.Utf8Tabs 0 1 w
 ml:∃ m,w.cell? ⟨2,0,none⟩=some (.int .i64 m)
theorem ml_below {w w1:World} (h:∃ m,w.cell? ⟨2,0,none⟩=some (.int .i64 m)) (hb:Below w.heap.size w w1):∃ m,w1.cell? ⟨2,0,none⟩=some (.int .i64 m):=by
 obtain ⟨m,hm⟩:=h
 exact ⟨m,(hb.cell (p:=⟨2,0,none⟩) (World.block_lt_of_cell? w _ hm)).trans hm⟩
theorem Tabs.below {w w1:World} (h:Tabs w) (hb:Below w.heap.size w w1):Tabs w1 where
 u8:=Utf8Tabs_below h.u8 hb
 ml:=ml_below h.ml hb
theorem ne_nil_b (l:List UInt8):(l != ([]:List UInt8))=!l.isEmpty:=by cases l<;>rfl
theorem Kd.C_addr {α:Type} {d:Kd α} {w:World} {A:Option Addr} {n:Nat} {xs:List α} (h:d.C w A n xs) (hn:0<n) (hd:0<d.sz):∃ b o,A=some ⟨b,o,none⟩∧b<w.heap.size∧∀ (j:Nat) (p:α),xs[j]? = some p→∃ cs:List Value,cs.length=d.sz∧d.K w p cs∧∀ (i:Nat) (u:Value),cs[i]? = some u→w.cell? ⟨b,o+j * d.sz+i,none⟩=some u:=by
 obtain ⟨⟨b,o,s⟩,rfl,hc⟩:=h.2.2 hn
 have hl:0<xs.length:=by have:=h.1;omega
 obtain ⟨cs,c1,c2,c3⟩:=hc 0 xs[0] (List.getElem?_eq_getElem hl)
 have h0:=c3 0 (cs[0]'(by omega)) (List.getElem?_eq_getElem (by omega))
 rw [Nat.zero_mul,Nat.add_zero,show (⟨b,o,s⟩:Addr).add 0=⟨b,o,s⟩ from rfl] at h0
 have hs:s=none:=by
  cases s with
  | none=>rfl
  | some x=>
   unfold World.cell? at h0
   cases hb:w.heap[b]? with
   | none=>rw [hb] at h0;cases h0
   | some q=>rw [hb] at h0;cases q<;>simp at h0
 subst hs
 have hb:b<w.heap.size:=World.block_lt_of_cell? w _ h0
 refine ⟨b,o,rfl,hb,fun j p hj=>?_⟩
 obtain ⟨cs,c1,c2,c3⟩:=hc j p hj
 refine ⟨cs,c1,c2,fun i u hu=>?_⟩
 have:=c3 i u hu
 rw [← this]
 congr 1
 unfold Addr.add
 split
 ·rename_i e;rw [show o+j * d.sz+i=o by omega]
 ·rw [Nat.add_assoc]
theorem own_runes {P:Program} {w:World} {base n:Nat} {e' src dst e:TypeId} {v:Value} {xs:List Int} (hs:P.underlying src=some (.slice e)) (he:P.underlying e=some (.int .i32)) (hd:P.underlying dst=some .string)
  (h:w.ownsRow base e' 1 v n (nums .i32 xs)):(convert src dst v).run P w=.ok (.string (runesBytes xs)) w:=by
 have hl:xs.length=n:=by have:=h.1;simp [nums] at this;exact this
 rcases h.2 with ⟨rfl,rfl⟩|⟨g,cap,cur,rfl,_⟩
 ·obtain rfl:xs=[]:=List.eq_nil_of_length_eq_zero hl
  exact run_convert_runes_nil w src dst e 0 0 hs he hd
 ·have:=run_convert_runes w src dst e ⟨g,0,none⟩ n cap xs (by omega) hs he hd (fun j hj=>by
   have hc:=h.cells (g:=g) rfl j (.int .i32 (xs.getD j 0)) (by simp [nums,List.getElem?_eq_getElem (show j<xs.length by omega),List.getD_eq_getElem?_getD])
   exact hc)
  rwa [List.take_of_length_le (by omega)] at this
def runesI (s:ByteArray):Nat→Nat→List Int
 | 0,_=>[]
 | b+1,i=>if i<s.size then ((Utf8.decode s i).1:Int) :: runesI s b (i+(Utf8.decode s i).2) else []
theorem runesI_conv (s:ByteArray):∀ (b i:Nat) (acc:Array Value),Conv.runesFrom s b i acc=acc++((runesI s b i).map (Value.int .i32)).toArray
 | 0,i,acc=>by simp [Conv.runesFrom,runesI]
 | b+1,i,acc=>by
  rw [Conv.runesFrom,runesI]
  by_cases h:i<s.size
  ·rw [if_pos h,if_pos h]
   show Conv.runesFrom s b (i+(Utf8.decode s i).2) (acc.push (.int .i32 (Int.ofNat (Utf8.decode s i).1)))=_
   rw [runesI_conv s b]
   simp
  ·rw [if_neg h,if_neg h];simp
theorem runesI_len (s:ByteArray):∀ (b i:Nat),(runesI s b i).length≤b
 | 0,i=>Nat.le_refl _
 | b+1,i=>by
  rw [runesI]
  split
  ·rw [List.length_cons];exact Nat.succ_le_succ (runesI_len s b _)
  ·exact Nat.zero_le _
theorem run_runes {P:Program} (src dst e:TypeId) (s:ByteArray) (hs:P.underlying src=some .string) (hd:P.underlying dst=some (.slice e)) (he:P.underlying e=some (.int .i32)) (hz:s.size≤1099511627776):
  ∃ (cap:World→Nat) (cells:World→Array Value),(∀ W,(convert src dst (.string s)).run P W=.ok (.slice (some ⟨W.heap.size,0,none⟩) (runesI s s.size 0).length (cap W)) (W.drew.alloc (.cells (cells W) e))) ∧
   ∀ W,(runesI s s.size 0).length≤cap W∧Kd.C (Kd.int .i32) (W.drew.alloc (.cells (cells W) e)) (some ⟨W.heap.size,0,none⟩) (runesI s s.size 0).length (runesI s s.size 0):=by
 have hl:=runesI_len s s.size 0
 have e0:Conv.runesFrom s s.size 0 #[]=((runesI s s.size 0).map (Value.int .i32)).toArray:=by rw [runesI_conv];simp
 have hn:(Conv.runesFrom s s.size 0 #[]).size=(runesI s s.size 0).length:=by rw [e0];simp
 refine ⟨fun W=>grownCap W (Conv.runesFrom s s.size 0 #[]).size 0 e,fun W=>Conv.runesFrom s s.size 0 #[]++Array.replicate (grownCap W (Conv.runesFrom s s.size 0 #[]).size 0 e-(Conv.runesFrom s s.size 0 #[]).size) (.int .i32 0),fun W=>?_,fun W=>⟨?_,?_⟩⟩
 ·rw [run_runes_of_string W src dst e s hs hd he (by rw [hn];omega),hn]
 ·rw [← hn];exact grownCap_ge W _ 0 e
 ·refine ⟨rfl,by omega,fun _=>⟨_,rfl,fun j p hj=>⟨[.int .i32 p],rfl,rfl,fun i u hu=>?_⟩⟩⟩
  obtain ⟨rfl,rfl⟩:i=0∧Value.int .i32 p=u:=by
   match i,hu with
   | 0,hu=>exact ⟨rfl,Option.some.inj hu⟩
  have hjl:=(List.getElem?_eq_some_iff.1 hj).1
  rw [Addr.add_lit]
  refine (Lib.cell_of_heap (heap_alloc_new W.drew _) _).trans ?_
  show (Conv.runesFrom s s.size 0 #[]++_)[0+(j * 1+0)]? = _
  rw [show 0+(j * 1+0)=j by omega,Array.getElem?_append_left (by rw [hn];exact hjl),e0]
  simp [hj]
def idxK {α:Type} (p:α→Option Bool):List α→Nat→Option Int
 | [],_=>some (-1)
 | x :: xs,i=>(p x).bind fun b=>if b=true then some (i:Int) else idxK p xs (i+1)
theorem idxK_in {α:Type} (p:α→Option Bool):∀ (xs:List α) (i:Nat) (r:Int),idxK p xs i=some r→r = -1∨((i:Int)≤r∧r<(i+xs.length:Nat))
 | [],i,r,h=>.inl (Option.some.inj h).symm
 | x :: xs,i,r,h=>by
  rw [idxK] at h
  obtain ⟨b,_,h⟩:=Option.bind_eq_some_iff.1 h
  cases b with
  | true=>
   rw [if_pos rfl] at h
   obtain rfl:=Option.some.inj h
   exact .inr ⟨Int.le_refl _,by rw [List.length_cons];omega⟩
  | false=>
   rw [if_neg (by decide)] at h
   rcases idxK_in p xs (i+1) r h with h|h
   ·exact .inl h
   ·exact .inr ⟨by omega,by rw [List.length_cons];omega⟩
set_option maxHeartbeats 4000000 in
theorem idxField {α:Type} [Inhabited α] (d:Kd α) (hd:0<d.sz) (zE:∀ w,(Go.sizeOf 86).run Tryz.prog w=.ok d.sz w) (p:α→Option Bool) (g:Nat) (lb:Array Value) (eg:∀ args w,(callFunc g args).run Tryz.prog w=.ok (.enter g args) w) (A:Option Addr) (n c:Nat) (zs:List α) (r:Int) (w:World)
  (hp:∀ (W:World) (x:α) (cs:List Value) (b:Bool),p x=some b→Below w.heap.size w W→d.K W x cs→Calls Tryz.prog g (#[.agg cs.toArray]++lb) W fun e w'=>e=.returned (.bool b)∧Below w.heap.size w w')
  (hC:d.C w A n zs) (hr:idxK p zs 0=some r):
  Calls Tryz.prog 136 #[.slice A n c,.func (.func g) #[] lb] w fun e w'=>e=.returned (.int .i64 r)∧Below w.heap.size w w':=by
 have hz:=hC.1
 have hbig:=hC.2.1
 rcases Nat.eq_zero_or_pos n with h0|hn
 ·subst h0
  obtain rfl:zs=[]:=List.eq_nil_of_length_eq_zero hz
  obtain rfl:(-1:Int)=r:=Option.some.inj hr
  clear hp hC hz hbig hr zE
  go_enter Tryz.func136,Tryz.ntmps136
  go_wp2
  go_loopg [5,8] 0 (fun _ _ s8 wr=>s8=.int .i64 0∧wr=w)
  case atStart=>exact ⟨rfl,rfl⟩
  case round=>
   obtain ⟨rfl,rfl⟩:=hrel
   go_wp2
   go_ret
   exact ⟨rfl,Below.refl _ _⟩
 obtain ⟨b,off,rfl,hb,hc⟩:=Kd.C_addr hC hn hd
 have hrow:∀ j,j<n→∃ cs:List Value,(∀ W:World,Below w.heap.size w W→d.K W zs[j]! cs)∧∀ W:World,Below w.heap.size w W→Sem.run Tryz.prog (loadCellsFrom ⟨b,off+j * d.sz,none⟩ 0 d.sz #[]) W=.ok cs.toArray W:=fun j hj=>by
  have hjz:j<zs.length:=by omega
  obtain ⟨cs,c1,c2,c3⟩:=hc j zs[j] (List.getElem?_eq_getElem hjz)
  refine ⟨cs,fun W hW=>?_,fun W hW=>run_loadCellsFrom_list _ _ _ cs d.sz c1 (fun i v hi=>?_)⟩
  ·rw [getElem!_pos zs j hjz];exact d.K_below hW c2
  ·rw [Addr.add_lit,hW.cell (p:=⟨b,off+j * d.sz+i,none⟩) hb]
   exact c3 i v hi
 clear hc hC
 have HR:=Aside0.mk hr
 have HZ:=Aside0.mk hz
 clear hr hz
 go_enter Tryz.func136,Tryz.ntmps136
 go_wp2
 go_loopg [5,8] n (fun gg _ s8 wr=>∃ kk:Nat,kk≤n∧n-kk≤gg∧s8=.int .i64 kk∧Aside (Below w.heap.size w wr)∧Aside (idxK p (zs.drop kk) kk=some r))
 case atStart=>exact ⟨0,Nat.zero_le _,by omega,rfl,Below.refl _ w,by have:=HR.out;exact this⟩
 case round=>
  obtain ⟨kk,hkk,hg,rfl,BW,A⟩:=hrel
  have hz:=HZ.out
  by_cases hlt:kk<n
  ·have hltz:(kk:Int)<(n:Int):=by omega
   have hjz:kk<zs.length:=by omega
   obtain ⟨cs,k1,k2⟩:=hrow kk hlt
   have l2:=k2 wr BW.out
   have hA:=A.out
   rw [List.drop_eq_getElem_cons hjz,idxK] at hA
   have hKy:d.K wr zs[kk] cs:=by have:=k1 wr BW.out;rwa [getElem!_pos zs kk hjz] at this
   generalize zs[kk]=y at hA hKy
   obtain ⟨q,hq,hA⟩:=Option.bind_eq_some_iff.1 hA
   have hcall:=hp wr y cs q hq BW.out hKy
   clear hrow hp k1 k2 hz hjz hq hKy
   cases q with
   | true=>
    rw [if_pos rfl] at hA
    obtain rfl:=Option.some.inj hA
    go_wp2_with (go_at_fn g;refine hcall.mono ?_;rintro e w' ⟨rfl,hb'⟩)
    go_ret
    exact ⟨rfl,hb'⟩
   | false=>
    rw [if_neg (by decide)] at hA
    have HA:=Aside0.mk hA
    clear hA A
    go_wp2_with (go_at_fn g;refine hcall.mono ?_;rintro e w' ⟨rfl,hb'⟩)
    go_roundg (n-(kk+1))
    case measure=>omega
    case rel=>exact ⟨kk+1,by omega,by omega,by go_num,hb',HA.out⟩
  ·have hltz:¬ (kk:Int)<(n:Int):=by omega
   have:kk=n:=by omega
   subst this
   have hA:=A.out
   rw [List.drop_of_length_le (by omega),idxK] at hA
   obtain rfl:=Option.some.inj hA
   clear hA A hz
   go_wp2
   go_ret
   exact ⟨rfl,BW.out⟩
set_option maxHeartbeats 4000000 in
theorem hasField {α:Type} [Inhabited α] (d:Kd α) (hd:0<d.sz) (zE:∀ w,(Go.sizeOf 86).run Tryz.prog w=.ok d.sz w) (p:α→Option Bool) (g:Nat) (lb:Array Value) (eg:∀ args w,(callFunc g args).run Tryz.prog w=.ok (.enter g args) w) (A:Option Addr) (n c:Nat) (zs:List α) (r:Int) (w:World)
  (hp:∀ (W:World) (x:α) (cs:List Value) (b:Bool),p x=some b→Below w.heap.size w W→d.K W x cs→Calls Tryz.prog g (#[.agg cs.toArray]++lb) W fun e w'=>e=.returned (.bool b)∧Below w.heap.size w w')
  (hC:d.C w A n zs) (hr:idxK p zs 0=some r):
  Calls Tryz.prog 124 #[.slice A n c,.func (.func g) #[] lb] w fun e w'=>e=.returned (.bool (decide (0≤r)))∧Below w.heap.size w w':=by
 have hcon:=idxField d hd zE p g lb eg A n c zs r w hp hC hr
 clear hp hC hr zE
 go_enter Tryz.func124,Tryz.ntmps124
 go_wp2_with (go_at_call 136;refine hcon.mono ?_;rintro e w' ⟨rfl,hb'⟩)
 go_ret
 exact ⟨rfl,hb'⟩
set_option maxHeartbeats 4000000 in
theorem idxAttr {α:Type} [Inhabited α] (d:Kd α) (hd:0<d.sz) (zE:∀ w,(Go.sizeOf 76).run Tryz.prog w=.ok d.sz w) (p:α→Option Bool) (g:Nat) (lb:Array Value) (eg:∀ args w,(callFunc g args).run Tryz.prog w=.ok (.enter g args) w) (A:Option Addr) (n c:Nat) (zs:List α) (r:Int) (w:World)
  (hp:∀ (W:World) (x:α) (cs:List Value) (b:Bool),p x=some b→Below w.heap.size w W→d.K W x cs→Calls Tryz.prog g (#[.agg cs.toArray]++lb) W fun e w'=>e=.returned (.bool b)∧Below w.heap.size w w')
  (hC:d.C w A n zs) (hr:idxK p zs 0=some r):
  Calls Tryz.prog 151 #[.slice A n c,.func (.func g) #[] lb] w fun e w'=>e=.returned (.int .i64 r)∧Below w.heap.size w w':=by
 have hz:=hC.1
 have hbig:=hC.2.1
 rcases Nat.eq_zero_or_pos n with h0|hn
 ·subst h0
  obtain rfl:zs=[]:=List.eq_nil_of_length_eq_zero hz
  obtain rfl:(-1:Int)=r:=Option.some.inj hr
  clear hp hC hz hbig hr zE
  go_enter Tryz.func151,Tryz.ntmps151
  go_wp2
  go_loopg [5,8] 0 (fun _ _ s8 wr=>s8=.int .i64 0∧wr=w)
  case atStart=>exact ⟨rfl,rfl⟩
  case round=>
   obtain ⟨rfl,rfl⟩:=hrel
   go_wp2
   go_ret
   exact ⟨rfl,Below.refl _ _⟩
 obtain ⟨b,off,rfl,hb,hc⟩:=Kd.C_addr hC hn hd
 have hrow:∀ j,j<n→∃ cs:List Value,(∀ W:World,Below w.heap.size w W→d.K W zs[j]! cs)∧∀ W:World,Below w.heap.size w W→Sem.run Tryz.prog (loadCellsFrom ⟨b,off+j * d.sz,none⟩ 0 d.sz #[]) W=.ok cs.toArray W:=fun j hj=>by
  have hjz:j<zs.length:=by omega
  obtain ⟨cs,c1,c2,c3⟩:=hc j zs[j] (List.getElem?_eq_getElem hjz)
  refine ⟨cs,fun W hW=>?_,fun W hW=>run_loadCellsFrom_list _ _ _ cs d.sz c1 (fun i v hi=>?_)⟩
  ·rw [getElem!_pos zs j hjz];exact d.K_below hW c2
  ·rw [Addr.add_lit,hW.cell (p:=⟨b,off+j * d.sz+i,none⟩) hb]
   exact c3 i v hi
 clear hc hC
 have HR:=Aside0.mk hr
 have HZ:=Aside0.mk hz
 clear hr hz
 go_enter Tryz.func151,Tryz.ntmps151
 go_wp2
 go_loopg [5,8] n (fun gg _ s8 wr=>∃ kk:Nat,kk≤n∧n-kk≤gg∧s8=.int .i64 kk∧Aside (Below w.heap.size w wr)∧Aside (idxK p (zs.drop kk) kk=some r))
 case atStart=>exact ⟨0,Nat.zero_le _,by omega,rfl,Below.refl _ w,by have:=HR.out;exact this⟩
 case round=>
  obtain ⟨kk,hkk,hg,rfl,BW,A⟩:=hrel
  have hz:=HZ.out
  by_cases hlt:kk<n
  ·have hltz:(kk:Int)<(n:Int):=by omega
   have hjz:kk<zs.length:=by omega
   obtain ⟨cs,k1,k2⟩:=hrow kk hlt
   have l2:=k2 wr BW.out
   have hA:=A.out
   rw [List.drop_eq_getElem_cons hjz,idxK] at hA
   have hKy:d.K wr zs[kk] cs:=by have:=k1 wr BW.out;rwa [getElem!_pos zs kk hjz] at this
   generalize zs[kk]=y at hA hKy
   obtain ⟨q,hq,hA⟩:=Option.bind_eq_some_iff.1 hA
   have hcall:=hp wr y cs q hq BW.out hKy
   clear hrow hp k1 k2 hz hjz hq hKy
   cases q with
   | true=>
    rw [if_pos rfl] at hA
    obtain rfl:=Option.some.inj hA
    go_wp2_with (go_at_fn g;refine hcall.mono ?_;rintro e w' ⟨rfl,hb'⟩)
    go_ret
    exact ⟨rfl,hb'⟩
   | false=>
    rw [if_neg (by decide)] at hA
    have HA:=Aside0.mk hA
    clear hA A
    go_wp2_with (go_at_fn g;refine hcall.mono ?_;rintro e w' ⟨rfl,hb'⟩)
    go_roundg (n-(kk+1))
    case measure=>omega
    case rel=>exact ⟨kk+1,by omega,by omega,by go_num,hb',HA.out⟩
  ·have hltz:¬ (kk:Int)<(n:Int):=by omega
   have:kk=n:=by omega
   subst this
   have hA:=A.out
   rw [List.drop_of_length_le (by omega),idxK] at hA
   obtain rfl:=Option.some.inj hA
   clear hA A hz
   go_wp2
   go_ret
   exact ⟨rfl,BW.out⟩
set_option maxHeartbeats 4000000 in
theorem idxType {α:Type} [Inhabited α] (d:Kd α) (hd:0<d.sz) (zE:∀ w,(Go.sizeOf 30).run Tryz.prog w=.ok d.sz w) (p:α→Option Bool) (g:Nat) (lb:Array Value) (eg:∀ args w,(callFunc g args).run Tryz.prog w=.ok (.enter g args) w) (A:Option Addr) (n c:Nat) (zs:List α) (r:Int) (w:World)
  (hp:∀ (W:World) (x:α) (cs:List Value) (b:Bool),p x=some b→Below w.heap.size w W→d.K W x cs→Calls Tryz.prog g (#[.agg cs.toArray]++lb) W fun e w'=>e=.returned (.bool b)∧Below w.heap.size w w')
  (hC:d.C w A n zs) (hr:idxK p zs 0=some r):
  Calls Tryz.prog 62 #[.slice A n c,.func (.func g) #[] lb] w fun e w'=>e=.returned (.int .i64 r)∧Below w.heap.size w w':=by
 have hz:=hC.1
 have hbig:=hC.2.1
 rcases Nat.eq_zero_or_pos n with h0|hn
 ·subst h0
  obtain rfl:zs=[]:=List.eq_nil_of_length_eq_zero hz
  obtain rfl:(-1:Int)=r:=Option.some.inj hr
  clear hp hC hz hbig hr zE
  go_enter Tryz.func62,Tryz.ntmps62
  go_wp2
  go_loopg [5,8] 0 (fun _ _ s8 wr=>s8=.int .i64 0∧wr=w)
  case atStart=>exact ⟨rfl,rfl⟩
  case round=>
   obtain ⟨rfl,rfl⟩:=hrel
   go_wp2
   go_ret
   exact ⟨rfl,Below.refl _ _⟩
 obtain ⟨b,off,rfl,hb,hc⟩:=Kd.C_addr hC hn hd
 have hrow:∀ j,j<n→∃ cs:List Value,(∀ W:World,Below w.heap.size w W→d.K W zs[j]! cs)∧∀ W:World,Below w.heap.size w W→Sem.run Tryz.prog (loadCellsFrom ⟨b,off+j * d.sz,none⟩ 0 d.sz #[]) W=.ok cs.toArray W:=fun j hj=>by
  have hjz:j<zs.length:=by omega
  obtain ⟨cs,c1,c2,c3⟩:=hc j zs[j] (List.getElem?_eq_getElem hjz)
  refine ⟨cs,fun W hW=>?_,fun W hW=>run_loadCellsFrom_list _ _ _ cs d.sz c1 (fun i v hi=>?_)⟩
  ·rw [getElem!_pos zs j hjz];exact d.K_below hW c2
  ·rw [Addr.add_lit,hW.cell (p:=⟨b,off+j * d.sz+i,none⟩) hb]
   exact c3 i v hi
 clear hc hC
 have HR:=Aside0.mk hr
 have HZ:=Aside0.mk hz
 clear hr hz
 go_enter Tryz.func62,Tryz.ntmps62
 go_wp2
 go_loopg [5,8] n (fun gg _ s8 wr=>∃ kk:Nat,kk≤n∧n-kk≤gg∧s8=.int .i64 kk∧Aside (Below w.heap.size w wr)∧Aside (idxK p (zs.drop kk) kk=some r))
 case atStart=>exact ⟨0,Nat.zero_le _,by omega,rfl,Below.refl _ w,by have:=HR.out;exact this⟩
 case round=>
  obtain ⟨kk,hkk,hg,rfl,BW,A⟩:=hrel
  have hz:=HZ.out
  by_cases hlt:kk<n
  ·have hltz:(kk:Int)<(n:Int):=by omega
   have hjz:kk<zs.length:=by omega
   obtain ⟨cs,k1,k2⟩:=hrow kk hlt
   have l2:=k2 wr BW.out
   have hA:=A.out
   rw [List.drop_eq_getElem_cons hjz,idxK] at hA
   have hKy:d.K wr zs[kk] cs:=by have:=k1 wr BW.out;rwa [getElem!_pos zs kk hjz] at this
   generalize zs[kk]=y at hA hKy
   obtain ⟨q,hq,hA⟩:=Option.bind_eq_some_iff.1 hA
   have hcall:=hp wr y cs q hq BW.out hKy
   clear hrow hp k1 k2 hz hjz hq hKy
   cases q with
   | true=>
    rw [if_pos rfl] at hA
    obtain rfl:=Option.some.inj hA
    go_wp2_with (go_at_fn g;refine hcall.mono ?_;rintro e w' ⟨rfl,hb'⟩)
    go_ret
    exact ⟨rfl,hb'⟩
   | false=>
    rw [if_neg (by decide)] at hA
    have HA:=Aside0.mk hA
    clear hA A
    go_wp2_with (go_at_fn g;refine hcall.mono ?_;rintro e w' ⟨rfl,hb'⟩)
    go_roundg (n-(kk+1))
    case measure=>omega
    case rel=>exact ⟨kk+1,by omega,by omega,by go_num,hb',HA.out⟩
  ·have hltz:¬ (kk:Int)<(n:Int):=by omega
   have:kk=n:=by omega
   subst this
   have hA:=A.out
   rw [List.drop_of_length_le (by omega),idxK] at hA
   obtain rfl:=Option.some.inj hA
   clear hA A hz
   go_wp2
   go_ret
   exact ⟨rfl,BW.out⟩
theorem info3:(Tryz.prog.info? 3).map (fun i=>(i.zero,i.size,i.bytes))=some (some (.int .i64 0),1,8):=by kernel_rfl
theorem info9:(Tryz.prog.info? 9).map (fun i=>(i.zero,i.size,i.bytes))=some (some (.string ⟨#[]⟩),1,16):=by kernel_rfl
theorem info30:(Tryz.prog.info? 30).map (fun i=>(i.zero,i.size,i.bytes))=some (some (.agg #[(.string ⟨#[]⟩),(.string ⟨#[]⟩),(.slice none 0 0),(.slice none 0 0),(.slice none 0 0),(.int .i64 0),(.int .i64 0),(.int .i64 0)]),8,128):=by kernel_rfl
theorem info86:(Tryz.prog.info? 86).map (fun i=>(i.zero,i.size,i.bytes))=some (some (.agg #[(.string ⟨#[]⟩),(.int .i64 0),(.bool false)]),3,32):=by kernel_rfl
theorem info88:(Tryz.prog.info? 88).map (fun i=>(i.zero,i.size,i.bytes))=some (some (.agg #[(.string ⟨#[]⟩),(.int .i64 0),(.bool false)]),3,32):=by kernel_rfl
theorem info114:(Tryz.prog.info? 114).map (fun i=>(i.zero,i.size,i.bytes))=some (some (.agg #[(.string ⟨#[]⟩),(.int .i64 0),(.int .i64 0),(.string ⟨#[]⟩)]),4,48):=by kernel_rfl
theorem info120:(Tryz.prog.info? 120).map (fun i=>(i.zero,i.size,i.bytes))=some (some (.slice none 0 0),1,24):=by kernel_rfl
-- the values' own types
structure S86 where
 f0:ByteArray
 f1:Int
 f2:Bool
def z86:S86:=⟨(⟨#[]⟩:ByteArray),(0:Int),false⟩
def k86:Kd S86:=Kd.iso (Kd.pair Kd.string (Kd.pair (Kd.int .i64) Kd.bool)) (fun x:S86=>(x.f0,x.f1,x.f2))
theorem k86_open {w:World} {x:S86} {cs:List Value} (h:k86.K w x cs):cs=[.string x.f0,.int .i64 x.f1,.bool x.f2]:=by
 obtain ⟨_,_,rfl,rfl,⟨_,_,rfl,rfl,rfl⟩⟩:=h
 exact rfl
theorem k86_mk (w:World) (x:S86)  : k86.K w x [.string x.f0,.int .i64 x.f1,.bool x.f2]:=⟨[.string x.f0],[.int .i64 x.f1,.bool x.f2],rfl,rfl,⟨[.int .i64 x.f1],[.bool x.f2],rfl,rfl,rfl⟩⟩
theorem k86_mkM (w:World) (base:Nat) (ok:Nat→Prop) (x:S86)  : k86.M w base ok x [.string x.f0,.int .i64 x.f1,.bool x.f2]:=⟨[.string x.f0],[.int .i64 x.f1,.bool x.f2],rfl,rfl,⟨[.int .i64 x.f1],[.bool x.f2],rfl,rfl,rfl⟩⟩
def rd_T86 (xs:List S86) (i:Int):S86:=xs.getD i.toNat z86
theorem at_T86 {w:World} {A:Option Addr} {n:Nat} {xs:List S86} (h:Kd.C k86 w A n xs) (i:Int) (h0:0≤i) (h1:i<n):∃ ad , A=some ad∧w.cell? (ad.add (i.toNat * 3))=some (.string (rd_T86 xs i).f0)∧w.cell? ⟨(ad.add (i.toNat * 3)).block,(ad.add (i.toNat * 3)).off+1,none⟩=some (.int .i64 (rd_T86 xs i).f1)∧w.cell? ⟨(ad.add (i.toNat * 3)).block,(ad.add (i.toNat * 3)).off+2,none⟩=some (.bool (rd_T86 xs i).f2):=by
 obtain ⟨ad,c,e,_,hK,hc0⟩:=Kd.C_get h z86 i h0 h1
 have hc:∀ j u,c[j]? = some u→w.cell? (ad.add (i.toNat * 3+j))=some u:=hc0
 obtain rfl:=k86_open hK
 exact ⟨ad,e,hc 0 _ rfl,by rw [← add_field _ _ 1 (by omega)];exact hc 1 _ rfl,by rw [← add_field _ _ 2 (by omega)];exact hc 2 _ rfl⟩
structure S25 where
 f0:Int
 f1:Int
 f2:Int
def z25:S25:=⟨(0:Int),(0:Int),(0:Int)⟩
def k25:Kd S25:=Kd.iso (Kd.pair (Kd.int .i64) (Kd.pair (Kd.int .i64) (Kd.int .i64))) (fun x:S25=>(x.f0,x.f1,x.f2))
theorem k25_open {w:World} {x:S25} {cs:List Value} (h:k25.K w x cs):cs=[.int .i64 x.f0,.int .i64 x.f1,.int .i64 x.f2]:=by
 obtain ⟨_,_,rfl,rfl,⟨_,_,rfl,rfl,rfl⟩⟩:=h
 exact rfl
theorem k25_mk (w:World) (x:S25)  : k25.K w x [.int .i64 x.f0,.int .i64 x.f1,.int .i64 x.f2]:=⟨[.int .i64 x.f0],[.int .i64 x.f1,.int .i64 x.f2],rfl,rfl,⟨[.int .i64 x.f1],[.int .i64 x.f2],rfl,rfl,rfl⟩⟩
theorem k25_mkM (w:World) (base:Nat) (ok:Nat→Prop) (x:S25)  : k25.M w base ok x [.int .i64 x.f0,.int .i64 x.f1,.int .i64 x.f2]:=⟨[.int .i64 x.f0],[.int .i64 x.f1,.int .i64 x.f2],rfl,rfl,⟨[.int .i64 x.f1],[.int .i64 x.f2],rfl,rfl,rfl⟩⟩
structure S30 where
 f0:ByteArray
 f1:ByteArray
 f2:(List S86)
 f3:(List S86)
 f4:(List ByteArray)
 f5:S25
def z30:S30:=⟨(⟨#[]⟩:ByteArray),(⟨#[]⟩:ByteArray),([]:List S86),([]:List S86),([]:List ByteArray),z25⟩
def k30:Kd S30:=Kd.iso (Kd.pair Kd.string (Kd.pair Kd.string (Kd.pair (Kd.slice 86 k86) (Kd.pair (Kd.slice 86 k86) (Kd.pair (Kd.slice 9 Kd.string) k25))))) (fun x:S30=>(x.f0,x.f1,x.f2,x.f3,x.f4,x.f5))
theorem k30_open {w:World} {x:S30} {cs:List Value} (h:k30.K w x cs):∃ A2 c2 A3 c3 A4 c4,cs=[.string x.f0,.string x.f1,.slice A2 x.f2.length c2,.slice A3 x.f3.length c3,.slice A4 x.f4.length c4,.int .i64 x.f5.f0,.int .i64 x.f5.f1,.int .i64 x.f5.f2]∧x.f2.length≤c2∧k86.C w A2 x.f2.length x.f2∧x.f3.length≤c3∧k86.C w A3 x.f3.length x.f3∧x.f4.length≤c4∧Kd.string.C w A4 x.f4.length x.f4:=by
 obtain ⟨_,_,rfl,rfl,⟨_,_,rfl,rfl,⟨_,_,rfl,⟨A2,c2,rfl,l2,g2⟩,⟨_,_,rfl,⟨A3,c3,rfl,l3,g3⟩,⟨_,_,rfl,⟨A4,c4,rfl,l4,g4⟩,s5⟩⟩⟩⟩⟩:=h
 obtain rfl:=k25_open s5
 exact ⟨A2,c2,A3,c3,A4,c4,rfl,l2,g2,l3,g3,l4,g4⟩
theorem k30_mk (w:World) (x:S30) {A2:Option Addr} {c2:Nat} (l2:x.f2.length≤c2) (g2:k86.C w A2 x.f2.length x.f2) {A3:Option Addr} {c3:Nat} (l3:x.f3.length≤c3) (g3:k86.C w A3 x.f3.length x.f3) {A4:Option Addr} {c4:Nat} (l4:x.f4.length≤c4) (g4:Kd.string.C w A4 x.f4.length x.f4):k30.K w x [.string x.f0,.string x.f1,.slice A2 x.f2.length c2,.slice A3 x.f3.length c3,.slice A4 x.f4.length c4,.int .i64 x.f5.f0,.int .i64 x.f5.f1,.int .i64 x.f5.f2]:=⟨[.string x.f0],[.string x.f1,.slice A2 x.f2.length c2,.slice A3 x.f3.length c3,.slice A4 x.f4.length c4,.int .i64 x.f5.f0,.int .i64 x.f5.f1,.int .i64 x.f5.f2],rfl,rfl,⟨[.string x.f1],[.slice A2 x.f2.length c2,.slice A3 x.f3.length c3,.slice A4 x.f4.length c4,.int .i64 x.f5.f0,.int .i64 x.f5.f1,.int .i64 x.f5.f2],rfl,rfl,⟨[.slice A2 x.f2.length c2],[.slice A3 x.f3.length c3,.slice A4 x.f4.length c4,.int .i64 x.f5.f0,.int .i64 x.f5.f1,.int .i64 x.f5.f2],rfl,⟨A2,c2,rfl,l2,g2⟩,⟨[.slice A3 x.f3.length c3],[.slice A4 x.f4.length c4,.int .i64 x.f5.f0,.int .i64 x.f5.f1,.int .i64 x.f5.f2],rfl,⟨A3,c3,rfl,l3,g3⟩,⟨[.slice A4 x.f4.length c4],[.int .i64 x.f5.f0,.int .i64 x.f5.f1,.int .i64 x.f5.f2],rfl,⟨A4,c4,rfl,l4,g4⟩,(k25_mk w x.f5 )⟩⟩⟩⟩⟩
theorem k30_mkM (w:World) (base:Nat) (ok:Nat→Prop) (x:S30) {v2:Value} (g2:k86.R 86 w base ok v2 x.f2) {v3:Value} (g3:k86.R 86 w base ok v3 x.f3) {v4:Value} (g4:Kd.string.R 9 w base ok v4 x.f4):k30.M w base ok x [.string x.f0,.string x.f1,v2,v3,v4,.int .i64 x.f5.f0,.int .i64 x.f5.f1,.int .i64 x.f5.f2]:=⟨[.string x.f0],[.string x.f1,v2,v3,v4,.int .i64 x.f5.f0,.int .i64 x.f5.f1,.int .i64 x.f5.f2],rfl,rfl,⟨[.string x.f1],[v2,v3,v4,.int .i64 x.f5.f0,.int .i64 x.f5.f1,.int .i64 x.f5.f2],rfl,rfl,⟨[v2],[v3,v4,.int .i64 x.f5.f0,.int .i64 x.f5.f1,.int .i64 x.f5.f2],rfl,⟨v2,rfl,g2⟩,⟨[v3],[v4,.int .i64 x.f5.f0,.int .i64 x.f5.f1,.int .i64 x.f5.f2],rfl,⟨v3,rfl,g3⟩,⟨[v4],[.int .i64 x.f5.f0,.int .i64 x.f5.f1,.int .i64 x.f5.f2],rfl,⟨v4,rfl,g4⟩,(k25_mkM w base ok x.f5 )⟩⟩⟩⟩⟩
def rd_T30 (xs:List S30) (i:Int):S30:=xs.getD i.toNat z30
theorem at_T30 {w:World} {A:Option Addr} {n:Nat} {xs:List S30} (h:Kd.C k30 w A n xs) (i:Int) (h0:0≤i) (h1:i<n):∃ ad A2 c2 A3 c3 A4 c4,A=some ad∧w.cell? (ad.add (i.toNat * 8))=some (.string (rd_T30 xs i).f0)∧w.cell? ⟨(ad.add (i.toNat * 8)).block,(ad.add (i.toNat * 8)).off+1,none⟩=some (.string (rd_T30 xs i).f1)∧w.cell? ⟨(ad.add (i.toNat * 8)).block,(ad.add (i.toNat * 8)).off+2,none⟩=some (.slice A2 (rd_T30 xs i).f2.length c2)∧w.cell? ⟨(ad.add (i.toNat * 8)).block,(ad.add (i.toNat * 8)).off+3,none⟩=some (.slice A3 (rd_T30 xs i).f3.length c3)∧w.cell? ⟨(ad.add (i.toNat * 8)).block,(ad.add (i.toNat * 8)).off+4,none⟩=some (.slice A4 (rd_T30 xs i).f4.length c4)∧w.cell? ⟨(ad.add (i.toNat * 8)).block,(ad.add (i.toNat * 8)).off+5,none⟩=some (.int .i64 (rd_T30 xs i).f5.f0)∧w.cell? ⟨(ad.add (i.toNat * 8)).block,(ad.add (i.toNat * 8)).off+6,none⟩=some (.int .i64 (rd_T30 xs i).f5.f1)∧w.cell? ⟨(ad.add (i.toNat * 8)).block,(ad.add (i.toNat * 8)).off+7,none⟩=some (.int .i64 (rd_T30 xs i).f5.f2)∧(rd_T30 xs i).f2.length≤c2∧k86.C w A2 (rd_T30 xs i).f2.length (rd_T30 xs i).f2∧(rd_T30 xs i).f3.length≤c3∧k86.C w A3 (rd_T30 xs i).f3.length (rd_T30 xs i).f3∧(rd_T30 xs i).f4.length≤c4∧Kd.string.C w A4 (rd_T30 xs i).f4.length (rd_T30 xs i).f4:=by
 obtain ⟨ad,c,e,_,hK,hc0⟩:=Kd.C_get h z30 i h0 h1
 have hc:∀ j u,c[j]? = some u→w.cell? (ad.add (i.toNat * 8+j))=some u:=hc0
 obtain ⟨A2,c2,A3,c3,A4,c4,rfl,l2,g2,l3,g3,l4,g4⟩:=k30_open hK
 exact ⟨ad,A2,c2,A3,c3,A4,c4,e,hc 0 _ rfl,by rw [← add_field _ _ 1 (by omega)];exact hc 1 _ rfl,by rw [← add_field _ _ 2 (by omega)];exact hc 2 _ rfl,by rw [← add_field _ _ 3 (by omega)];exact hc 3 _ rfl,by rw [← add_field _ _ 4 (by omega)];exact hc 4 _ rfl,by rw [← add_field _ _ 5 (by omega)];exact hc 5 _ rfl,by rw [← add_field _ _ 6 (by omega)];exact hc 6 _ rfl,by rw [← add_field _ _ 7 (by omega)];exact hc 7 _ rfl,l2,g2,l3,g3,l4,g4⟩
structure S88 where
 f0:ByteArray
 f1:Int
 f2:Bool
def z88:S88:=⟨(⟨#[]⟩:ByteArray),(0:Int),false⟩
def k88:Kd S88:=Kd.iso (Kd.pair Kd.string (Kd.pair (Kd.int .i64) Kd.bool)) (fun x:S88=>(x.f0,x.f1,x.f2))
theorem k88_open {w:World} {x:S88} {cs:List Value} (h:k88.K w x cs):cs=[.string x.f0,.int .i64 x.f1,.bool x.f2]:=by
 obtain ⟨_,_,rfl,rfl,⟨_,_,rfl,rfl,rfl⟩⟩:=h
 exact rfl
theorem k88_mkM (w:World) (base:Nat) (ok:Nat→Prop) (x:S88)  : k88.M w base ok x [.string x.f0,.int .i64 x.f1,.bool x.f2]:=⟨[.string x.f0],[.int .i64 x.f1,.bool x.f2],rfl,rfl,⟨[.int .i64 x.f1],[.bool x.f2],rfl,rfl,rfl⟩⟩
def rd_T88 (xs:List S88) (i:Int):S88:=xs.getD i.toNat z88
theorem at_T88 {w:World} {A:Option Addr} {n:Nat} {xs:List S88} (h:Kd.C k88 w A n xs) (i:Int) (h0:0≤i) (h1:i<n):∃ ad , A=some ad∧w.cell? (ad.add (i.toNat * 3))=some (.string (rd_T88 xs i).f0)∧w.cell? ⟨(ad.add (i.toNat * 3)).block,(ad.add (i.toNat * 3)).off+1,none⟩=some (.int .i64 (rd_T88 xs i).f1)∧w.cell? ⟨(ad.add (i.toNat * 3)).block,(ad.add (i.toNat * 3)).off+2,none⟩=some (.bool (rd_T88 xs i).f2):=by
 obtain ⟨ad,c,e,_,hK,hc0⟩:=Kd.C_get h z88 i h0 h1
 have hc:∀ j u,c[j]? = some u→w.cell? (ad.add (i.toNat * 3+j))=some u:=hc0
 obtain rfl:=k88_open hK
 exact ⟨ad,e,hc 0 _ rfl,by rw [← add_field _ _ 1 (by omega)];exact hc 1 _ rfl,by rw [← add_field _ _ 2 (by omega)];exact hc 2 _ rfl⟩
structure S74 where
 f0:Int
 f1:Int
 f2:ByteArray
def z74:S74:=⟨(0:Int),(0:Int),(⟨#[]⟩:ByteArray)⟩
def k74:Kd S74:=Kd.iso (Kd.pair (Kd.int .i64) (Kd.pair (Kd.int .i64) Kd.string)) (fun x:S74=>(x.f0,x.f1,x.f2))
theorem k74_open {w:World} {x:S74} {cs:List Value} (h:k74.K w x cs):cs=[.int .i64 x.f0,.int .i64 x.f1,.string x.f2]:=by
 obtain ⟨_,_,rfl,rfl,⟨_,_,rfl,rfl,rfl⟩⟩:=h
 exact rfl
theorem k74_mk (w:World) (x:S74)  : k74.K w x [.int .i64 x.f0,.int .i64 x.f1,.string x.f2]:=⟨[.int .i64 x.f0],[.int .i64 x.f1,.string x.f2],rfl,rfl,⟨[.int .i64 x.f1],[.string x.f2],rfl,rfl,rfl⟩⟩
structure S76 where
 f0:ByteArray
 f1:S74
def z76:S76:=⟨(⟨#[]⟩:ByteArray),z74⟩
def k76:Kd S76:=Kd.iso (Kd.pair Kd.string k74) (fun x:S76=>(x.f0,x.f1))
theorem k76_open {w:World} {x:S76} {cs:List Value} (h:k76.K w x cs):cs=[.string x.f0,.int .i64 x.f1.f0,.int .i64 x.f1.f1,.string x.f1.f2]:=by
 obtain ⟨_,_,rfl,rfl,s1⟩:=h
 obtain rfl:=k74_open s1
 exact rfl
theorem k76_mk (w:World) (x:S76)  : k76.K w x [.string x.f0,.int .i64 x.f1.f0,.int .i64 x.f1.f1,.string x.f1.f2]:=⟨[.string x.f0],[.int .i64 x.f1.f0,.int .i64 x.f1.f1,.string x.f1.f2],rfl,rfl,(k74_mk w x.f1 )⟩
def rd_T76 (xs:List S76) (i:Int):S76:=xs.getD i.toNat z76
theorem at_T76 {w:World} {A:Option Addr} {n:Nat} {xs:List S76} (h:Kd.C k76 w A n xs) (i:Int) (h0:0≤i) (h1:i<n):∃ ad , A=some ad∧w.cell? (ad.add (i.toNat * 4))=some (.string (rd_T76 xs i).f0)∧w.cell? ⟨(ad.add (i.toNat * 4)).block,(ad.add (i.toNat * 4)).off+1,none⟩=some (.int .i64 (rd_T76 xs i).f1.f0)∧w.cell? ⟨(ad.add (i.toNat * 4)).block,(ad.add (i.toNat * 4)).off+2,none⟩=some (.int .i64 (rd_T76 xs i).f1.f1)∧w.cell? ⟨(ad.add (i.toNat * 4)).block,(ad.add (i.toNat * 4)).off+3,none⟩=some (.string (rd_T76 xs i).f1.f2):=by
 obtain ⟨ad,c,e,_,hK,hc0⟩:=Kd.C_get h z76 i h0 h1
 have hc:∀ j u,c[j]? = some u→w.cell? (ad.add (i.toNat * 4+j))=some u:=hc0
 obtain rfl:=k76_open hK
 exact ⟨ad,e,hc 0 _ rfl,by rw [← add_field _ _ 1 (by omega)];exact hc 1 _ rfl,by rw [← add_field _ _ 2 (by omega)];exact hc 2 _ rfl,by rw [← add_field _ _ 3 (by omega)];exact hc 3 _ rfl⟩
structure S112 where
 f0:Int
 f1:Int
 f2:ByteArray
def z112:S112:=⟨(0:Int),(0:Int),(⟨#[]⟩:ByteArray)⟩
def k112:Kd S112:=Kd.iso (Kd.pair (Kd.int .i64) (Kd.pair (Kd.int .i64) Kd.string)) (fun x:S112=>(x.f0,x.f1,x.f2))
theorem k112_open {w:World} {x:S112} {cs:List Value} (h:k112.K w x cs):cs=[.int .i64 x.f0,.int .i64 x.f1,.string x.f2]:=by
 obtain ⟨_,_,rfl,rfl,⟨_,_,rfl,rfl,rfl⟩⟩:=h
 exact rfl
theorem k112_mkM (w:World) (base:Nat) (ok:Nat→Prop) (x:S112)  : k112.M w base ok x [.int .i64 x.f0,.int .i64 x.f1,.string x.f2]:=⟨[.int .i64 x.f0],[.int .i64 x.f1,.string x.f2],rfl,rfl,⟨[.int .i64 x.f1],[.string x.f2],rfl,rfl,rfl⟩⟩
structure S114 where
 f0:ByteArray
 f1:S112
def z114:S114:=⟨(⟨#[]⟩:ByteArray),z112⟩
def k114:Kd S114:=Kd.iso (Kd.pair Kd.string k112) (fun x:S114=>(x.f0,x.f1))
theorem k114_open {w:World} {x:S114} {cs:List Value} (h:k114.K w x cs):cs=[.string x.f0,.int .i64 x.f1.f0,.int .i64 x.f1.f1,.string x.f1.f2]:=by
 obtain ⟨_,_,rfl,rfl,s1⟩:=h
 obtain rfl:=k112_open s1
 exact rfl
theorem k114_mkM (w:World) (base:Nat) (ok:Nat→Prop) (x:S114)  : k114.M w base ok x [.string x.f0,.int .i64 x.f1.f0,.int .i64 x.f1.f1,.string x.f1.f2]:=⟨[.string x.f0],[.int .i64 x.f1.f0,.int .i64 x.f1.f1,.string x.f1.f2],rfl,rfl,(k112_mkM w base ok x.f1 )⟩
def rd_T114 (xs:List S114) (i:Int):S114:=xs.getD i.toNat z114
theorem at_T114 {w:World} {A:Option Addr} {n:Nat} {xs:List S114} (h:Kd.C k114 w A n xs) (i:Int) (h0:0≤i) (h1:i<n):∃ ad , A=some ad∧w.cell? (ad.add (i.toNat * 4))=some (.string (rd_T114 xs i).f0)∧w.cell? ⟨(ad.add (i.toNat * 4)).block,(ad.add (i.toNat * 4)).off+1,none⟩=some (.int .i64 (rd_T114 xs i).f1.f0)∧w.cell? ⟨(ad.add (i.toNat * 4)).block,(ad.add (i.toNat * 4)).off+2,none⟩=some (.int .i64 (rd_T114 xs i).f1.f1)∧w.cell? ⟨(ad.add (i.toNat * 4)).block,(ad.add (i.toNat * 4)).off+3,none⟩=some (.string (rd_T114 xs i).f1.f2):=by
 obtain ⟨ad,c,e,_,hK,hc0⟩:=Kd.C_get h z114 i h0 h1
 have hc:∀ j u,c[j]? = some u→w.cell? (ad.add (i.toNat * 4+j))=some u:=hc0
 obtain rfl:=k114_open hK
 exact ⟨ad,e,hc 0 _ rfl,by rw [← add_field _ _ 1 (by omega)];exact hc 1 _ rfl,by rw [← add_field _ _ 2 (by omega)];exact hc 2 _ rfl,by rw [← add_field _ _ 3 (by omega)];exact hc 3 _ rfl⟩
def rd_L19 (xs:List (List Int)) (i:Int):(List Int):=xs.getD i.toNat ([]:List Int)
theorem at_L19 {w:World} {A:Option Addr} {n:Nat} {xs:List (List Int)} (h:Kd.C (Kd.slice 3 (Kd.int .i64)) w A n xs) (i:Int) (h0:0≤i) (h1:i<n):∃ ad A0 c0,A=some ad∧w.cell? (ad.add i.toNat)=some (.slice A0 (rd_L19 xs i).length c0)∧(rd_L19 xs i).length≤c0∧(Kd.int .i64).C w A0 (rd_L19 xs i).length (rd_L19 xs i):=by
 obtain ⟨ad,c,e,_,hK,hc0⟩:=Kd.C_get h ([]:List Int) i h0 h1
 have hc:∀ j u,c[j]? = some u→w.cell? (ad.add (i.toNat * 1+j))=some u:=hc0
 obtain ⟨A0,c0,rfl,l0,g0⟩:=hK
 exact ⟨ad,A0,c0,e,by have hq:=hc 0 _ rfl;rwa [Nat.mul_one,Nat.add_zero] at hq,l0,g0⟩
theorem aM {p:Prop} (h:p):Aside0 p:=⟨h⟩
theorem sI {α:Type} {a b:α} (h:some a=some b):a=b:=Option.some.inj h
theorem dT {p:Prop} [Decidable p] (h:p):decide p=true:=decide_eq_true h
theorem dF {p:Prop} [Decidable p] (h:¬p):decide p=false:=decide_eq_false h
section
variable {w:World} {g T:Nat} {cs:Array Value} {a0 a1 a2 a3 a4:Value} {R:Prop}
theorem ce3 (h:w.heap[g]? = some (.cells cs T (0,0))) (h0:cs[0]? = some a0:=by rfl) (h1:cs[1]? = some a1:=by rfl) (h2:cs[2]? = some a2:=by rfl):w.cell? ⟨g,0,none⟩=some a0∧w.cell? ⟨g,1,none⟩=some a1∧w.cell? ⟨g,2,none⟩=some a2:=⟨(blk_cell h 0).trans h0,(blk_cell h 1).trans h1,(blk_cell h 2).trans h2⟩
end
end Go.Proofs.YtpjjbaclphoilaaGreatDoor.A
