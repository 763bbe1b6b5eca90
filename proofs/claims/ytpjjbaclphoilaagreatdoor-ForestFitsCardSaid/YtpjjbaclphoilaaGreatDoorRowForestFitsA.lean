/- The law ForestFits of the given program: for every input the call returns true, and each argument reads as before; the tables that it reads are tied to the program's text. The row is proved out of the contract of the law's function (walked) and the pure statement (Pure.ForestFits); the card out of the row and the given tie. -/
import Derived.Test.YtpjjbaclphoilaaGreatDoorRows
import Derived.Test.YtpjjbaclphoilaaGreatDoorCards
import Derived.Test.YtpjjbaclphoilaaGreatDoorTie
import Derived.Test.YtpjjbaclphoilaaGreatDoorLaidA
import Derived.Test.YtpjjbaclphoilaaGreatDoorAx24
import Derived.Test.YtpjjbaclphoilaaGreatDoorPureForestFits
import Derived.Test.YtpjjbaclphoilaaGreatDoorWSized
import Derived.WalkKit
import Derived.ProofKit
import Derived.OpenShut
import Derived.ShutString
import Derived.ChangeOld
import Derived.Below
import Derived.SizedLaws
import Derived.Carry
import Derived.Lay
import Derived.SevenTiedAt
import Derived.LaidMore
import Derived.Stop.Joined
import Derived.Lib.SmallJoins
namespace Go.Proofs.YtpjjbaclphoilaaGreatDoor.forestFits
open Go.ChangeShapes Go.WideShapes Go.ChangeAt Go.RowKit
open Go.ChangeMaps (open_string shut_string)
open Go.Proofs.YtpjjbaclphoilaaGreatDoorW.PrintWords Go.Proofs.YtpjjbaclphoilaaGreatDoorW.PrintLast
set_option linter.unusedVariables false
theorem own:ownKnob Tryz.prog.godebug=none:=by kernel_rfl
theorem laidOut:laidOutB Tryz.prog=true:=by kernel_rfl
def IsRow (k:IntKind) (w:World) (a:Option Addr) (len cap:Nat) (zs:List Int):Prop:=
  (a=none∧len=0∧cap=0∧zs=[]) ∨
  ∃ x,a=some x∧len≤cap∧cap≤maxLen∧zs.length=cap∧(∀ i,i<zs.length→w.cell? (x.add i)=some (.int k (zs.getD i 0)))∧∀ n∈zs,(Lit.int k n).wf=true
set_option maxRecDepth 100000 in
theorem lifted (os:Os) (started:os.Started) (H:Type) (enc:TypeId × Value→H):
    ReturnsInHanded {} Tryz.checked os 6 .any (fun w args=>(Rows.forestFitsSpec.pre enc Tryz.prog Tryz.f6 [] false w args∧laidMetH Tryz.prog laidList w)∧sizedMet enc Tryz.prog Tryz.f6 (OpenSpec.ofChange Rows.forestFitsSpec) false w args)
      (Rows.forestFitsSpec.post enc Tryz.prog Tryz.f6 false true false false):=by
  refine handed_shaped (C:=Tryz.checked) (X:=fun w _=>laidMetH Tryz.prog laidList w) (fun _ _ _ hh h=>h.of_heap hh) own started (by kernel_rfl) Tryz.func6
    (ChangeSpec.witness_shaped (enc:=enc) (C:=Tryz.checked) (os:=os) (X:=fun w _=>laidMetH Tryz.prog laidList w) false (World.laidAll Tryz.prog os laidList) #[.slice none 0 0,.agg #[.int .i64 0,.int .i64 0,.int .i64 0,.string ByteArray.empty,.slice none 0 0],.string ByteArray.empty] 8 (World.laidAll_os _ _ _)
      (World.shaped_of_ZipB (by kernel_rfl) (by kernel_rfl)) (by kernel_rfl) (by kernel_rfl) (by kernel_rfl)
      (by rw [MakeChecks.laidMetH_plain _ _ _ (by kernel_rfl)];exact laidMet_laidAll _ (by kernel_rfl) (by kernel_rfl))) ?_
  intro W base args ds gs before hsh hval0 hW _ hsz0 hL _
  have hsz:(DataW.weightsEach Tryz.prog (Tryz.f6.params.toList++Rows.forestFitsSpec.plain.varTypes Tryz.prog) (ds++gs)).all (· ≤ reachBytes)=true:=hsz0
  have hval:∀ (j:Nat) t v,Tryz.f6.params[j]? = some t→args[j]? = some v→Value.okWide Tryz.prog W .any base t v:=hval0
  have hW':=hW
  obtain ⟨p,q,hA0,hV,rfl,hfz,hnd⟩:=hW
  have hA:DataW.TrodAll enc Tryz.prog W 0 (fun _=>true) true Tryz.f6.params.toList args.toList ds p:=hA0
  rw [Tryz.params6] at hA hval hsz
  obtain ⟨v0,vs0,d0,ds0,p0,q0,hargs,rfl,rfl,h0,r0⟩:=trodAll_cons hA
  obtain ⟨v1,vs1,d1,ds1,p1,q1,rfl,rfl,rfl,h1,r1⟩:=trodAll_cons r0
  obtain ⟨v2,vs2,d2,ds2,p2,q2,rfl,rfl,rfl,h2,r2⟩:=trodAll_cons r1
  obtain ⟨rfl,rfl,rfl⟩:=trodAll_nil r2
  obtain rfl:args=#[v0,v1,v2]:=by cases args;simp_all
  obtain ⟨rfl,rfl⟩:=trodVars_none hV
  have k0:=h0
  have lt0:∀ x∈p0,x.block<W.heap.size:=by obtain ⟨m,hm⟩:=k0;exact DataW.trod_lt m _ _ _ hm
  obtain ⟨A0,len0,cap0,rfl⟩:=okWide_slice Tryz.underlying22 (hval 0 22 v0 rfl rfl)
  obtain ⟨fu0,hf0⟩:=h0
  obtain ⟨B0,c0,l0,e0,hc0,hm0,hC0,hw0⟩:=open_rowK A.k30 (fun v:A.S30=>(Lit.int .i64 v.f5.f0).wf=true∧(Lit.int .i64 v.f5.f1).wf=true∧(Lit.int .i64 v.f5.f2).wf=true) Tryz.underlying22 (show Tryz.prog.cellsOf 30=A.k30.sz by kernel_rfl) open_T30 hf0
  simp only [Value.cells,List.cons.injEq,Value.slice.injEq,and_true] at e0
  obtain ⟨rfl,rfl,rfl⟩:=e0
  have k1:=h1
  have lt1:∀ x∈p1,x.block<W.heap.size:=by obtain ⟨m,hm⟩:=k1;exact DataW.trod_lt m _ _ _ hm
  obtain ⟨cs1,rfl,hn1⟩:=okWide_struct Tryz.underlying66 (hval 1 66 v1 rfl rfl)
  obtain ⟨fu1,hf1⟩:=h1
  have hl1:cs1.toList.length=5:=by rw [Array.length_toList];exact hn1.trans (by kernel_rfl)
  obtain ⟨c1_0,c1_1,c1_2,c1_3,c1_4,ec1⟩:∃ c1_0 c1_1 c1_2 c1_3 c1_4,cs1.toList=[c1_0,c1_1,c1_2,c1_3,c1_4]:=by
    match cs1.toList,hl1 with
    | [c1_0,c1_1,c1_2,c1_3,c1_4],_=>exact ⟨c1_0,c1_1,c1_2,c1_3,c1_4,rfl⟩
  obtain rfl:cs1=#[c1_0,c1_1,c1_2,c1_3,c1_4]:=by rw [← Array.toArray_toList (xs:=cs1),ec1]
  replace hf1:DataW.trod enc Tryz.prog W 0 (fun _=>true) true fu1 66 [c1_0,c1_1,c1_2,c1_3,c1_4]=some (d1,p1):=hf1
  obtain ⟨xsq1,nq1,edq1,efq1,hlq1,hxq1,hfq1⟩:=DataW.trod_struct Tryz.underlying66 hf1
  have zq1_0:Tryz.prog.cellsOf 25=3:=by kernel_rfl
  obtain ⟨xq1_0,hxq1_0⟩:∃ y,xsq1[0]? = some y:=⟨_,List.getElem?_eq_getElem (by rw [hxq1];decide)⟩
  have gq1_0:=(hfq1 0 _ rfl).trans hxq1_0
  replace gq1_0:DataW.trod enc Tryz.prog W 0 (fun _=>true) true nq1 25 (List.take (Tryz.prog.cellsOf 25) (List.drop 0 [c1_0,c1_1,c1_2,c1_3,c1_4]))=some xq1_0:=gq1_0
  rw [zq1_0] at gq1_0
  replace gq1_0:DataW.trod enc Tryz.prog W 0 (fun _=>true) true nq1 25 [c1_0,c1_1,c1_2]=some xq1_0:=gq1_0
  obtain ⟨xsq1_0,nq1_0,edq1_0,efq1_0,hlq1_0,hxq1_0,hfq1_0⟩:=DataW.trod_struct Tryz.underlying25 gq1_0
  have zq1_0_0:Tryz.prog.cellsOf 3=1:=by kernel_rfl
  obtain ⟨xq1_0_0,hxq1_0_0⟩:∃ y,xsq1_0[0]? = some y:=⟨_,List.getElem?_eq_getElem (by rw [hxq1_0];decide)⟩
  have gq1_0_0:=(hfq1_0 0 _ rfl).trans hxq1_0_0
  replace gq1_0_0:DataW.trod enc Tryz.prog W 0 (fun _=>true) true nq1_0 3 (List.take (Tryz.prog.cellsOf 3) (List.drop 0 [c1_0,c1_1,c1_2]))=some xq1_0_0:=gq1_0_0
  rw [zq1_0_0] at gq1_0_0
  replace gq1_0_0:DataW.trod enc Tryz.prog W 0 (fun _=>true) true nq1_0 3 [c1_0]=some xq1_0_0:=gq1_0_0
  obtain ⟨aq1_0_0,eq1_0_0,_,wq1_0_0⟩:=DataW.trod_int Tryz.underlying3 gq1_0_0
  have Eq1_0_0:=(List.cons.inj eq1_0_0).1
  have zq1_0_1:Tryz.prog.cellsOf 3=1:=by kernel_rfl
  obtain ⟨xq1_0_1,hxq1_0_1⟩:∃ y,xsq1_0[1]? = some y:=⟨_,List.getElem?_eq_getElem (by rw [hxq1_0];decide)⟩
  have gq1_0_1:=(hfq1_0 1 _ rfl).trans hxq1_0_1
  replace gq1_0_1:DataW.trod enc Tryz.prog W 0 (fun _=>true) true nq1_0 3 (List.take (Tryz.prog.cellsOf 3) (List.drop 1 [c1_0,c1_1,c1_2]))=some xq1_0_1:=gq1_0_1
  rw [zq1_0_1] at gq1_0_1
  replace gq1_0_1:DataW.trod enc Tryz.prog W 0 (fun _=>true) true nq1_0 3 [c1_1]=some xq1_0_1:=gq1_0_1
  obtain ⟨aq1_0_1,eq1_0_1,_,wq1_0_1⟩:=DataW.trod_int Tryz.underlying3 gq1_0_1
  have Eq1_0_1:=(List.cons.inj eq1_0_1).1
  have zq1_0_2:Tryz.prog.cellsOf 3=1:=by kernel_rfl
  obtain ⟨xq1_0_2,hxq1_0_2⟩:∃ y,xsq1_0[2]? = some y:=⟨_,List.getElem?_eq_getElem (by rw [hxq1_0];decide)⟩
  have gq1_0_2:=(hfq1_0 2 _ rfl).trans hxq1_0_2
  replace gq1_0_2:DataW.trod enc Tryz.prog W 0 (fun _=>true) true nq1_0 3 (List.take (Tryz.prog.cellsOf 3) (List.drop 2 [c1_0,c1_1,c1_2]))=some xq1_0_2:=gq1_0_2
  rw [zq1_0_2] at gq1_0_2
  replace gq1_0_2:DataW.trod enc Tryz.prog W 0 (fun _=>true) true nq1_0 3 [c1_2]=some xq1_0_2:=gq1_0_2
  obtain ⟨aq1_0_2,eq1_0_2,_,wq1_0_2⟩:=DataW.trod_int Tryz.underlying3 gq1_0_2
  have Eq1_0_2:=(List.cons.inj eq1_0_2).1
  have zq1_1:Tryz.prog.cellsOf 9=1:=by kernel_rfl
  obtain ⟨xq1_1,hxq1_1⟩:∃ y,xsq1[1]? = some y:=⟨_,List.getElem?_eq_getElem (by rw [hxq1];decide)⟩
  have gq1_1:=(hfq1 1 _ rfl).trans hxq1_1
  replace gq1_1:DataW.trod enc Tryz.prog W 0 (fun _=>true) true nq1 9 (List.take (Tryz.prog.cellsOf 9) (List.drop 3 [c1_0,c1_1,c1_2,c1_3,c1_4]))=some xq1_1:=gq1_1
  rw [zq1_1] at gq1_1
  replace gq1_1:DataW.trod enc Tryz.prog W 0 (fun _=>true) true nq1 9 [c1_3]=some xq1_1:=gq1_1
  obtain ⟨aq1_1,eq1_1,_,_⟩:=DataW.trod_string Tryz.underlying9 gq1_1
  have Eq1_1:=(List.cons.inj eq1_1).1
  have zq1_2:Tryz.prog.cellsOf 64=1:=by kernel_rfl
  obtain ⟨xq1_2,hxq1_2⟩:∃ y,xsq1[2]? = some y:=⟨_,List.getElem?_eq_getElem (by rw [hxq1];decide)⟩
  have gq1_2:=(hfq1 2 _ rfl).trans hxq1_2
  replace gq1_2:DataW.trod enc Tryz.prog W 0 (fun _=>true) true nq1 64 (List.take (Tryz.prog.cellsOf 64) (List.drop 4 [c1_0,c1_1,c1_2,c1_3,c1_4]))=some xq1_2:=gq1_2
  rw [zq1_2] at gq1_2
  replace gq1_2:DataW.trod enc Tryz.prog W 0 (fun _=>true) true nq1 64 [c1_4]=some xq1_2:=gq1_2
  obtain ⟨Bq1_2,cq1_2,lq1_2,eq1_2,hcq1_2,hmq1_2,hCq1_2,hwq1_2⟩:=open_rowK A.k76 (fun v:A.S76=>(Lit.int .i64 v.f1.f0).wf=true∧(Lit.int .i64 v.f1.f1).wf=true) Tryz.underlying64 (show Tryz.prog.cellsOf 76=A.k76.sz by kernel_rfl) open_T76 gq1_2
  have Eq1_2:=(List.cons.inj eq1_2).1
  subst Eq1_0_0
  subst Eq1_0_1
  subst Eq1_0_2
  subst Eq1_1
  subst Eq1_2
  have k2:=h2
  have lt2:∀ x∈p2,x.block<W.heap.size:=by obtain ⟨m,hm⟩:=k2;exact DataW.trod_lt m _ _ _ hm
  obtain ⟨a2,rfl,rfl,rfl,y2⟩:=open_string Tryz.underlying9 (hval 2 9 v2 rfl rfl) h2
  have w2:a2.size≤140737488351232:=by
    have z:=sized_string hsz (j:=2) (t:=9) rfl rfl
    rw [Array.length_toList] at z
    exact z
  rw [MakeChecks.laidMetH_plain _ _ _ (by kernel_rfl)] at hL
  have hT:A.Tabs W:=tabs_of_laid hL hsh
  clear hA0 hval0 hsz0 hsz
  obtain ⟨k,hk⟩:=Pure.ForestFits l0 aq1_0_0 aq1_0_1 aq1_0_2 aq1_1 lq1_2 a2 hm0 hw0 hmq1_2 hwq1_2 w2
  refine (A.L05_ForestFits.calls k _ _ l0 aq1_0_0 aq1_0_1 aq1_0_2 aq1_1 _ _ lq1_2 a2 true W hC0 hc0 hCq1_2 hcq1_2 hT hk).mono fun e W' ⟨he,bel0⟩=>?_
  have bel:Below W.heap.size W W':=bel0
  subst he
  exact ⟨_,rfl,_,_,_,[],_,[],hW',trodAll_mk1 (shut_bool Tryz.underlying4 _),(trodAll_cons_mk (Below.trod laidOut (by kernel_rfl) (of_decide_eq_true (by kernel_rfl)) k0 bel lt0) (trodAll_cons_mk (Below.trod laidOut (by kernel_rfl) (of_decide_eq_true (by kernel_rfl)) k1 bel lt1) (trodAll_cons_mk (Below.trod laidOut (by kernel_rfl) (of_decide_eq_true (by kernel_rfl)) k2 bel lt2) trodAll_mk0))),rfl,bel.frame _,fun h=>by cases h⟩
end Go.Proofs.YtpjjbaclphoilaaGreatDoor.forestFits
