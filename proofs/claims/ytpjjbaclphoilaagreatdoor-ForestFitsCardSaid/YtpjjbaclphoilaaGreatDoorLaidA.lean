/- What the rows of this seat list is what the walks ask of memory ('Tabs'). By mkrow.py, the session's own program. -/
import Derived.Deep.Slices
import Derived.ChangeArms
import Derived.OpenShut
import Derived.Shelf.Vars
import Derived.Handed
import Derived.SizedLaws
import Derived.Test.YtpjjbaclphoilaaGreatDoorRows
import Derived.Test.YtpjjbaclphoilaaGreatDoorAx0
import Derived.Lib.LaidU8T
import Derived.PinnedBridge
import Derived.Lay
namespace Go.Proofs.YtpjjbaclphoilaaGreatDoor
open Go.RowKit Go.Lib Go.Shelf Go.Deep Go.Proofs.YtpjjbaclphoilaaGreatDoorW.PrintWords Go.Proofs.YtpjjbaclphoilaaGreatDoorW.PrintLast
set_option maxRecDepth 100000
def laidList:List (String × DataW Unit):=[("unicode/utf8.acceptRanges",Rows.laid_unicode_utf8_acceptRanges),("unicode/utf8.first",Rows.laid_unicode_utf8_first)]
def u8ren:Ren:=⟨fun|n=>n,fun|5=>5|119=>194|138=>196|139=>197|n=>n,fun|3=>0|4=>1|n=>n⟩
theorem u8types:U8Types Tryz.prog u8ren:=⟨Tryz.underlying5,Tryz.underlying194,by kernel_rfl,Tryz.underlying197⟩
theorem u8extra:U8Extra Tryz.prog u8ren:=⟨by kernel_rfl,by kernel_rfl,by kernel_rfl,by kernel_rfl,by kernel_rfl,by kernel_rfl,by kernel_rfl⟩
theorem accept_eq:(Rows.laid_unicode_utf8_acceptRanges:DataW Unit)=acceptData:=by kernel_rfl
theorem tabIs_of_reads {P:Program} {W:World} {name:String} {k:IntKind} {zs:List Int} {g:Nat} {t e:TypeId} {n:Nat}
    (hg:P.globalNamed name=some g) (hty:(P.globals[g]?).map (·.type)=some t) (ht:P.underlying t=some (.array n e)) (he:P.underlying e=some (.int k)) (hce:P.cellsOf e=1) (hct:P.cellsOf t=n)
    (h:VarReads P W name (tabData k zs)):TabIs P W name k zs:=by
  obtain ⟨g',t',cs,fuel,p,hg',ht',hvar,hd⟩:=h
  obtain rfl:=Option.some.inj (hg.symm.trans hg')
  obtain rfl:=Option.some.inj (hty.symm.trans ht')
  unfold TabIs
  rw [hvar,← cells_of_tab ht he hce hct hd]
theorem tabs_of_laid {W:World} (h:laidMet Tryz.prog laidList W) (hsh:W.ShapedOpen Tryz.prog):A.Tabs W where
  u8:=utf8Tabs_of_readsT u8types u8extra (Pinned.utf8First_eq ▸ (show VarReads Tryz.prog W "unicode/utf8.first" Pinned.utf8First from laidMet.reads h (.tail _ (.head _)))) (accept_eq ▸ laidMet.reads h (.head _))
  ml:=cell_of_shapedOpen_int (P:=Tryz.prog) (g:=2) (t:=3) (zero:=#[.int .i64 0]) hsh (of_decide_eq_true (by kernel_rfl)) (by kernel_rfl) rfl (by kernel_rfl) (by kernel_rfl) Tryz.underlying3
theorem handed_shaped {H:Type} {enc:TypeId × Value→H} {a:Assume} {C:Checked} {os:Os} {f:FuncId} {fn:Func} {s:ChangeSpec} {conds:List PathCond} {apart fresh handsOn again:Bool} {X:World→Array Value→Prop}
    (hX:∀ (w w':World) (args:Array Value),w.heap=w'.heap→X w args→X w' args)
    (own:ownKnob C.prog.godebug=none) (started:os.Started) (noInit:C.prog.inits.idxOf? f=none) (hfn:C.prog.funcs[f]? = some fn)
    (witness:∃ (w:World) (tape:Tape) (i:Input),w.os=os∧(w.forCall tape i).Shaped C.prog∧i.vars=[]∧Input.okWide C.prog (w.forCall tape i) .any w.heap.size f i ∧
      ((s.pre enc C.prog fn conds apart (w.forCall tape i).memory i.args∧X (w.forCall tape i).memory i.args)∧sizedMet enc C.prog fn (OpenSpec.ofChange s) apart (w.forCall tape i).memory i.args)∧a.holds C.prog (lone (Frame.enter C.prog f i.args .normal) [] (w.forCall tape i)))
    (contract:∀ (W:World) (base:Nat) (args:Array Value) (ds gs:List (DataW H)) (before:List MemPlace),W.ShapedOpen C.prog →
      (∀ (j:Nat) t v,fn.params[j]? = some t→args[j]? = some v→Value.okWide C.prog W .any base t v) →
      DataW.Whole enc C.prog fn.params.toList s.vars apart W args.toList ds gs before →
      conds.all (PathCond.test C.prog ⟨fn.params.toList,ds,s.plain.varTypes C.prog,gs⟩)=true →
      (DataW.weightsEach C.prog (fn.params.toList++s.plain.varTypes C.prog) (ds++gs)).all (· ≤ reachBytes)=true→X W args →
      a.holds C.prog (lone (Frame.enter C.prog f args .normal) [] W) →
      Calls C.prog f args W fun e W'=>∃ v,e=.returned v∧s.post enc C.prog fn apart fresh handsOn again W args v W'):
    ReturnsInHanded a C os f .any (fun w args=>(s.pre enc C.prog fn conds apart w args∧X w args)∧sizedMet enc C.prog fn (OpenSpec.ofChange s) apart w args) (s.post enc C.prog fn apart fresh handsOn again):=by
  refine returnsInHanded_of_calls own started noInit witness ?_
  intro w tape i _ hsh _ hok hpre hholds
  obtain ⟨_,_,_,fn',hfn',_,_,_,_,hval⟩:=hok
  have e:fn'=fn:=Option.some.inj (hfn'.symm.trans hfn)
  subst e
  obtain ⟨⟨⟨ds,gs,before,hw,hc⟩,hx⟩,hz⟩:=hpre
  refine (contract (w.forCall tape i) w.heap.size i.args ds gs before hsh hval (DataW.Whole.of_heap (w':=w.forCall tape i) (by rfl) hw) hc (hz.weights hw) (hX _ _ _ (by rfl) hx) hholds).mono fun e W' ⟨v,he,hp⟩=>?_
  subst he
  exact ChangeSpec.post_blind hp
theorem open_rowK {H:Type} {enc:TypeId × Value→H} {P:Program} {W:World} {base:Nat} {spare:Nat→Bool} {held:Bool} {t e:TypeId} {fuel:Nat} {cs:List Value} {x:DataW H × List MemPlace} {α:Type} [Inhabited α] (d:Kd α) (wf:α→Prop)
    (ht:P.underlying t=some (.slice e)) (hc:P.cellsOf e=d.sz)
    (he:∀ (fuel:Nat) (cs:List Value) (x:DataW H × List MemPlace),DataW.trod enc P W base spare held fuel e cs=some x→∃ v,d.K W v cs∧wf v)
    (h:DataW.trod enc P W base spare held fuel t cs=some x):∃ (A:Option Addr) (c:Nat) (l:List α),cs=[.slice A l.length c]∧l.length≤c∧l.length≤maxLen∧d.C W A l.length l∧∀ v∈l,wf v:=by
  rcases open_slice ht h with ⟨rfl,_⟩|⟨a,len,cap,m,n,D,Pl,rfl,hb,hl,hm,hmm,rfl,hx⟩
  · exact ⟨none,0,[],rfl,Nat.le_refl _,Nat.zero_le _,⟨rfl,by simp,fun h=>absurd h (by simp)⟩,fun v hv=>by simp at hv⟩
  have hlm:len≤m:=by rw [hmm];split<;>omega
  obtain ⟨V,hV⟩:=choose_lt (n:=len) (α:=α) (p:=fun i v=>wf v∧∃ cs':List Value,cs'.length=d.sz∧d.K W v cs'∧∀ (j:Nat) (u:Value),cs'[j]? = some u→W.cell? (a.add (i * d.sz+j))=some u) (fun i hi=>by
    obtain ⟨cs',h1,h2⟩:=hx i (by omega)
    rw [hc] at h1
    obtain ⟨_,hlen,hcell⟩:=World.cells?_some h1
    obtain ⟨v,v1,v2⟩:=he _ _ _ h2
    refine ⟨v,v2,cs',hlen,v1,fun j u hu=>?_⟩
    have hj:j<d.sz:=by rw [← hlen];exact (List.getElem?_eq_some_iff.1 hu).1
    have:=hcell j hj
    rw [Addr.add_add] at this
    rw [this,hu])
  have hL:((List.range len).map V).length=len:=by rw [List.length_map,List.length_range]
  refine ⟨some a,cap,(List.range len).map V,by rw [hL],by rw [hL];exact hl,by rw [hL];exact Nat.le_trans hl hm,?_,fun v hv=>?_⟩
  · rw [hL]
    refine ⟨hL,by unfold maxLen at hm;omega,fun _=>⟨a,rfl,fun j p hj=>?_⟩⟩
    have hjl:j<len:=by rw [← hL];exact (List.getElem?_eq_some_iff.1 hj).1
    rw [List.getElem?_map,List.getElem?_range hjl] at hj
    obtain rfl:=Option.some.inj hj
    exact (hV j hjl).2
  · obtain ⟨i,hi,rfl⟩:=List.mem_map.1 hv
    exact (hV i (List.mem_range.1 hi)).1
instance:Inhabited A.S86:=⟨A.z86⟩
theorem len86_3:∀ cs:List Value,cs.length=3→∃ c0 c1 c2,cs=[c0,c1,c2]
  | [c0,c1,c2],_=>⟨c0,c1,c2,rfl⟩
theorem open_T86 {H:Type} {enc:TypeId × Value→H} {W:World} {base:Nat} {spare:Nat→Bool} {held:Bool} (fuel:Nat) (cs:List Value) (x:DataW H × List MemPlace) (h:DataW.trod enc Tryz.prog W base spare held fuel 86 cs=some x):∃ v:A.S86,A.k86.K W v cs∧(Lit.int .i64 v.f1).wf=true:=by
  obtain ⟨xs,n,rfl,rfl,hl,hx,hf⟩:=DataW.trod_struct Tryz.underlying86 h
  have hl':cs.length=3:=hl.trans (by kernel_rfl)
  obtain ⟨c0,c1,c2,rfl⟩:=len86_3 cs hl'
  have z0:Tryz.prog.cellsOf 9=1:=by kernel_rfl
  obtain ⟨x0,hx0⟩:∃ y,xs[0]? = some y:=⟨_,List.getElem?_eq_getElem (by rw [hx];decide)⟩
  have g0:=(hf 0 _ rfl).trans hx0
  replace g0:DataW.trod enc Tryz.prog W base spare held n 9 (List.take (Tryz.prog.cellsOf 9) (List.drop 0 [c0,c1,c2]))=some x0:=g0
  rw [z0] at g0
  replace g0:DataW.trod enc Tryz.prog W base spare held n 9 [c0]=some x0:=g0
  obtain ⟨v0,e0,_,_⟩:=DataW.trod_string Tryz.underlying9 g0
  have z1:Tryz.prog.cellsOf 3=1:=by kernel_rfl
  obtain ⟨x1,hx1⟩:∃ y,xs[1]? = some y:=⟨_,List.getElem?_eq_getElem (by rw [hx];decide)⟩
  have g1:=(hf 1 _ rfl).trans hx1
  replace g1:DataW.trod enc Tryz.prog W base spare held n 3 (List.take (Tryz.prog.cellsOf 3) (List.drop 1 [c0,c1,c2]))=some x1:=g1
  rw [z1] at g1
  replace g1:DataW.trod enc Tryz.prog W base spare held n 3 [c1]=some x1:=g1
  obtain ⟨v1,e1,_,w1⟩:=DataW.trod_int Tryz.underlying3 g1
  have z2:Tryz.prog.cellsOf 4=1:=by kernel_rfl
  obtain ⟨x2,hx2⟩:∃ y,xs[2]? = some y:=⟨_,List.getElem?_eq_getElem (by rw [hx];decide)⟩
  have g2:=(hf 2 _ rfl).trans hx2
  replace g2:DataW.trod enc Tryz.prog W base spare held n 4 (List.take (Tryz.prog.cellsOf 4) (List.drop 2 [c0,c1,c2]))=some x2:=g2
  rw [z2] at g2
  replace g2:DataW.trod enc Tryz.prog W base spare held n 4 [c2]=some x2:=g2
  obtain ⟨v2,e2,_⟩:=DataW.trod_bool Tryz.underlying4 g2
  cases e0
  cases e1
  cases e2
  exact ⟨⟨v0,v1,v2⟩,A.k86_mk W ⟨v0,v1,v2⟩,w1⟩
instance:Inhabited A.S25:=⟨A.z25⟩
theorem len25_3:∀ cs:List Value,cs.length=3→∃ c0 c1 c2,cs=[c0,c1,c2]
  | [c0,c1,c2],_=>⟨c0,c1,c2,rfl⟩
theorem open_T25 {H:Type} {enc:TypeId × Value→H} {W:World} {base:Nat} {spare:Nat→Bool} {held:Bool} (fuel:Nat) (cs:List Value) (x:DataW H × List MemPlace) (h:DataW.trod enc Tryz.prog W base spare held fuel 25 cs=some x):∃ v:A.S25,A.k25.K W v cs∧(Lit.int .i64 v.f0).wf=true∧(Lit.int .i64 v.f1).wf=true∧(Lit.int .i64 v.f2).wf=true:=by
  obtain ⟨xs,n,rfl,rfl,hl,hx,hf⟩:=DataW.trod_struct Tryz.underlying25 h
  have hl':cs.length=3:=hl.trans (by kernel_rfl)
  obtain ⟨c0,c1,c2,rfl⟩:=len25_3 cs hl'
  have z0:Tryz.prog.cellsOf 3=1:=by kernel_rfl
  obtain ⟨x0,hx0⟩:∃ y,xs[0]? = some y:=⟨_,List.getElem?_eq_getElem (by rw [hx];decide)⟩
  have g0:=(hf 0 _ rfl).trans hx0
  replace g0:DataW.trod enc Tryz.prog W base spare held n 3 (List.take (Tryz.prog.cellsOf 3) (List.drop 0 [c0,c1,c2]))=some x0:=g0
  rw [z0] at g0
  replace g0:DataW.trod enc Tryz.prog W base spare held n 3 [c0]=some x0:=g0
  obtain ⟨v0,e0,_,w0⟩:=DataW.trod_int Tryz.underlying3 g0
  have z1:Tryz.prog.cellsOf 3=1:=by kernel_rfl
  obtain ⟨x1,hx1⟩:∃ y,xs[1]? = some y:=⟨_,List.getElem?_eq_getElem (by rw [hx];decide)⟩
  have g1:=(hf 1 _ rfl).trans hx1
  replace g1:DataW.trod enc Tryz.prog W base spare held n 3 (List.take (Tryz.prog.cellsOf 3) (List.drop 1 [c0,c1,c2]))=some x1:=g1
  rw [z1] at g1
  replace g1:DataW.trod enc Tryz.prog W base spare held n 3 [c1]=some x1:=g1
  obtain ⟨v1,e1,_,w1⟩:=DataW.trod_int Tryz.underlying3 g1
  have z2:Tryz.prog.cellsOf 3=1:=by kernel_rfl
  obtain ⟨x2,hx2⟩:∃ y,xs[2]? = some y:=⟨_,List.getElem?_eq_getElem (by rw [hx];decide)⟩
  have g2:=(hf 2 _ rfl).trans hx2
  replace g2:DataW.trod enc Tryz.prog W base spare held n 3 (List.take (Tryz.prog.cellsOf 3) (List.drop 2 [c0,c1,c2]))=some x2:=g2
  rw [z2] at g2
  replace g2:DataW.trod enc Tryz.prog W base spare held n 3 [c2]=some x2:=g2
  obtain ⟨v2,e2,_,w2⟩:=DataW.trod_int Tryz.underlying3 g2
  cases e0
  cases e1
  cases e2
  exact ⟨⟨v0,v1,v2⟩,A.k25_mk W ⟨v0,v1,v2⟩,w0,w1,w2⟩
instance:Inhabited A.S30:=⟨A.z30⟩
theorem len30_8:∀ cs:List Value,cs.length=8→∃ c0 c1 c2 c3 c4 c5 c6 c7,cs=[c0,c1,c2,c3,c4,c5,c6,c7]
  | [c0,c1,c2,c3,c4,c5,c6,c7],_=>⟨c0,c1,c2,c3,c4,c5,c6,c7,rfl⟩
theorem open_T30 {H:Type} {enc:TypeId × Value→H} {W:World} {base:Nat} {spare:Nat→Bool} {held:Bool} (fuel:Nat) (cs:List Value) (x:DataW H × List MemPlace) (h:DataW.trod enc Tryz.prog W base spare held fuel 30 cs=some x):∃ v:A.S30,A.k30.K W v cs∧(Lit.int .i64 v.f5.f0).wf=true∧(Lit.int .i64 v.f5.f1).wf=true∧(Lit.int .i64 v.f5.f2).wf=true:=by
  obtain ⟨xs,n,rfl,rfl,hl,hx,hf⟩:=DataW.trod_struct Tryz.underlying30 h
  have hl':cs.length=8:=hl.trans (by kernel_rfl)
  obtain ⟨c0,c1,c2,c3,c4,c5,c6,c7,rfl⟩:=len30_8 cs hl'
  have z0:Tryz.prog.cellsOf 9=1:=by kernel_rfl
  obtain ⟨x0,hx0⟩:∃ y,xs[0]? = some y:=⟨_,List.getElem?_eq_getElem (by rw [hx];decide)⟩
  have g0:=(hf 0 _ rfl).trans hx0
  replace g0:DataW.trod enc Tryz.prog W base spare held n 9 (List.take (Tryz.prog.cellsOf 9) (List.drop 0 [c0,c1,c2,c3,c4,c5,c6,c7]))=some x0:=g0
  rw [z0] at g0
  replace g0:DataW.trod enc Tryz.prog W base spare held n 9 [c0]=some x0:=g0
  obtain ⟨v0,e0,_,_⟩:=DataW.trod_string Tryz.underlying9 g0
  have z1:Tryz.prog.cellsOf 9=1:=by kernel_rfl
  obtain ⟨x1,hx1⟩:∃ y,xs[1]? = some y:=⟨_,List.getElem?_eq_getElem (by rw [hx];decide)⟩
  have g1:=(hf 1 _ rfl).trans hx1
  replace g1:DataW.trod enc Tryz.prog W base spare held n 9 (List.take (Tryz.prog.cellsOf 9) (List.drop 1 [c0,c1,c2,c3,c4,c5,c6,c7]))=some x1:=g1
  rw [z1] at g1
  replace g1:DataW.trod enc Tryz.prog W base spare held n 9 [c1]=some x1:=g1
  obtain ⟨v1,e1,_,_⟩:=DataW.trod_string Tryz.underlying9 g1
  have z2:Tryz.prog.cellsOf 23=1:=by kernel_rfl
  obtain ⟨x2,hx2⟩:∃ y,xs[2]? = some y:=⟨_,List.getElem?_eq_getElem (by rw [hx];decide)⟩
  have g2:=(hf 2 _ rfl).trans hx2
  replace g2:DataW.trod enc Tryz.prog W base spare held n 23 (List.take (Tryz.prog.cellsOf 23) (List.drop 2 [c0,c1,c2,c3,c4,c5,c6,c7]))=some x2:=g2
  rw [z2] at g2
  replace g2:DataW.trod enc Tryz.prog W base spare held n 23 [c2]=some x2:=g2
  obtain ⟨A2,c2_,v2,e2,m2_,_,C2_,_⟩:=open_rowK A.k86 (fun v:A.S86=>(Lit.int .i64 v.f1).wf=true) Tryz.underlying23 (show Tryz.prog.cellsOf 86=A.k86.sz by kernel_rfl) open_T86 g2
  have z3:Tryz.prog.cellsOf 23=1:=by kernel_rfl
  obtain ⟨x3,hx3⟩:∃ y,xs[3]? = some y:=⟨_,List.getElem?_eq_getElem (by rw [hx];decide)⟩
  have g3:=(hf 3 _ rfl).trans hx3
  replace g3:DataW.trod enc Tryz.prog W base spare held n 23 (List.take (Tryz.prog.cellsOf 23) (List.drop 3 [c0,c1,c2,c3,c4,c5,c6,c7]))=some x3:=g3
  rw [z3] at g3
  replace g3:DataW.trod enc Tryz.prog W base spare held n 23 [c3]=some x3:=g3
  obtain ⟨A3,c3_,v3,e3,m3_,_,C3_,_⟩:=open_rowK A.k86 (fun v:A.S86=>(Lit.int .i64 v.f1).wf=true) Tryz.underlying23 (show Tryz.prog.cellsOf 86=A.k86.sz by kernel_rfl) open_T86 g3
  have z4:Tryz.prog.cellsOf 28=1:=by kernel_rfl
  obtain ⟨x4,hx4⟩:∃ y,xs[4]? = some y:=⟨_,List.getElem?_eq_getElem (by rw [hx];decide)⟩
  have g4:=(hf 4 _ rfl).trans hx4
  replace g4:DataW.trod enc Tryz.prog W base spare held n 28 (List.take (Tryz.prog.cellsOf 28) (List.drop 4 [c0,c1,c2,c3,c4,c5,c6,c7]))=some x4:=g4
  rw [z4] at g4
  replace g4:DataW.trod enc Tryz.prog W base spare held n 28 [c4]=some x4:=g4
  obtain ⟨A4,c4_,v4,e4,m4_,_,C4_,_⟩:=open_rowK Kd.string (fun _=>True) Tryz.underlying28 (show Tryz.prog.cellsOf 9=1 by kernel_rfl) (fun _ _ _ h_=>by obtain ⟨v_,e_,_,_⟩:=DataW.trod_string Tryz.underlying9 h_;exact ⟨v_,e_,trivial⟩) g4
  have z5:Tryz.prog.cellsOf 25=3:=by kernel_rfl
  obtain ⟨x5,hx5⟩:∃ y,xs[5]? = some y:=⟨_,List.getElem?_eq_getElem (by rw [hx];decide)⟩
  have g5:=(hf 5 _ rfl).trans hx5
  replace g5:DataW.trod enc Tryz.prog W base spare held n 25 (List.take (Tryz.prog.cellsOf 25) (List.drop 5 [c0,c1,c2,c3,c4,c5,c6,c7]))=some x5:=g5
  rw [z5] at g5
  replace g5:DataW.trod enc Tryz.prog W base spare held n 25 [c5,c6,c7]=some x5:=g5
  obtain ⟨v5,e5,w5_0,w5_1,w5_2⟩:=open_T25 _ _ _ g5
  replace e5:=A.k25_open e5
  cases e0
  cases e1
  cases e2
  cases e3
  cases e4
  cases e5
  exact ⟨⟨v0,v1,v2,v3,v4,v5⟩,A.k30_mk W ⟨v0,v1,v2,v3,v4,v5⟩ m2_ C2_ m3_ C3_ m4_ C4_,w5_0,w5_1,w5_2⟩
instance:Inhabited A.S74:=⟨A.z74⟩
theorem len74_3:∀ cs:List Value,cs.length=3→∃ c0 c1 c2,cs=[c0,c1,c2]
  | [c0,c1,c2],_=>⟨c0,c1,c2,rfl⟩
theorem open_T74 {H:Type} {enc:TypeId × Value→H} {W:World} {base:Nat} {spare:Nat→Bool} {held:Bool} (fuel:Nat) (cs:List Value) (x:DataW H × List MemPlace) (h:DataW.trod enc Tryz.prog W base spare held fuel 74 cs=some x):∃ v:A.S74,A.k74.K W v cs∧(Lit.int .i64 v.f0).wf=true∧(Lit.int .i64 v.f1).wf=true:=by
  obtain ⟨xs,n,rfl,rfl,hl,hx,hf⟩:=DataW.trod_struct Tryz.underlying74 h
  have hl':cs.length=3:=hl.trans (by kernel_rfl)
  obtain ⟨c0,c1,c2,rfl⟩:=len74_3 cs hl'
  have z0:Tryz.prog.cellsOf 3=1:=by kernel_rfl
  obtain ⟨x0,hx0⟩:∃ y,xs[0]? = some y:=⟨_,List.getElem?_eq_getElem (by rw [hx];decide)⟩
  have g0:=(hf 0 _ rfl).trans hx0
  replace g0:DataW.trod enc Tryz.prog W base spare held n 3 (List.take (Tryz.prog.cellsOf 3) (List.drop 0 [c0,c1,c2]))=some x0:=g0
  rw [z0] at g0
  replace g0:DataW.trod enc Tryz.prog W base spare held n 3 [c0]=some x0:=g0
  obtain ⟨v0,e0,_,w0⟩:=DataW.trod_int Tryz.underlying3 g0
  have z1:Tryz.prog.cellsOf 3=1:=by kernel_rfl
  obtain ⟨x1,hx1⟩:∃ y,xs[1]? = some y:=⟨_,List.getElem?_eq_getElem (by rw [hx];decide)⟩
  have g1:=(hf 1 _ rfl).trans hx1
  replace g1:DataW.trod enc Tryz.prog W base spare held n 3 (List.take (Tryz.prog.cellsOf 3) (List.drop 1 [c0,c1,c2]))=some x1:=g1
  rw [z1] at g1
  replace g1:DataW.trod enc Tryz.prog W base spare held n 3 [c1]=some x1:=g1
  obtain ⟨v1,e1,_,w1⟩:=DataW.trod_int Tryz.underlying3 g1
  have z2:Tryz.prog.cellsOf 9=1:=by kernel_rfl
  obtain ⟨x2,hx2⟩:∃ y,xs[2]? = some y:=⟨_,List.getElem?_eq_getElem (by rw [hx];decide)⟩
  have g2:=(hf 2 _ rfl).trans hx2
  replace g2:DataW.trod enc Tryz.prog W base spare held n 9 (List.take (Tryz.prog.cellsOf 9) (List.drop 2 [c0,c1,c2]))=some x2:=g2
  rw [z2] at g2
  replace g2:DataW.trod enc Tryz.prog W base spare held n 9 [c2]=some x2:=g2
  obtain ⟨v2,e2,_,_⟩:=DataW.trod_string Tryz.underlying9 g2
  cases e0
  cases e1
  cases e2
  exact ⟨⟨v0,v1,v2⟩,A.k74_mk W ⟨v0,v1,v2⟩,w0,w1⟩
instance:Inhabited A.S76:=⟨A.z76⟩
theorem len76_4:∀ cs:List Value,cs.length=4→∃ c0 c1 c2 c3,cs=[c0,c1,c2,c3]
  | [c0,c1,c2,c3],_=>⟨c0,c1,c2,c3,rfl⟩
theorem open_T76 {H:Type} {enc:TypeId × Value→H} {W:World} {base:Nat} {spare:Nat→Bool} {held:Bool} (fuel:Nat) (cs:List Value) (x:DataW H × List MemPlace) (h:DataW.trod enc Tryz.prog W base spare held fuel 76 cs=some x):∃ v:A.S76,A.k76.K W v cs∧(Lit.int .i64 v.f1.f0).wf=true∧(Lit.int .i64 v.f1.f1).wf=true:=by
  obtain ⟨xs,n,rfl,rfl,hl,hx,hf⟩:=DataW.trod_struct Tryz.underlying76 h
  have hl':cs.length=4:=hl.trans (by kernel_rfl)
  obtain ⟨c0,c1,c2,c3,rfl⟩:=len76_4 cs hl'
  have z0:Tryz.prog.cellsOf 9=1:=by kernel_rfl
  obtain ⟨x0,hx0⟩:∃ y,xs[0]? = some y:=⟨_,List.getElem?_eq_getElem (by rw [hx];decide)⟩
  have g0:=(hf 0 _ rfl).trans hx0
  replace g0:DataW.trod enc Tryz.prog W base spare held n 9 (List.take (Tryz.prog.cellsOf 9) (List.drop 0 [c0,c1,c2,c3]))=some x0:=g0
  rw [z0] at g0
  replace g0:DataW.trod enc Tryz.prog W base spare held n 9 [c0]=some x0:=g0
  obtain ⟨v0,e0,_,_⟩:=DataW.trod_string Tryz.underlying9 g0
  have z1:Tryz.prog.cellsOf 74=3:=by kernel_rfl
  obtain ⟨x1,hx1⟩:∃ y,xs[1]? = some y:=⟨_,List.getElem?_eq_getElem (by rw [hx];decide)⟩
  have g1:=(hf 1 _ rfl).trans hx1
  replace g1:DataW.trod enc Tryz.prog W base spare held n 74 (List.take (Tryz.prog.cellsOf 74) (List.drop 1 [c0,c1,c2,c3]))=some x1:=g1
  rw [z1] at g1
  replace g1:DataW.trod enc Tryz.prog W base spare held n 74 [c1,c2,c3]=some x1:=g1
  obtain ⟨v1,e1,w1_0,w1_1⟩:=open_T74 _ _ _ g1
  replace e1:=A.k74_open e1
  cases e0
  cases e1
  exact ⟨⟨v0,v1⟩,A.k76_mk W ⟨v0,v1⟩,w1_0,w1_1⟩
end Go.Proofs.YtpjjbaclphoilaaGreatDoor
