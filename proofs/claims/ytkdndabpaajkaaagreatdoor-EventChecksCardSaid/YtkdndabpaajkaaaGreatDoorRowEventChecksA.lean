/- The law EventChecks of the given program: for every input the call returns true, and each argument reads as before; the tables that it reads are tied to the program's text. The row is proved out of the contract of the law's function (walked) and the pure statement (Pure.EventChecks); the card out of the row and the given tie. -/
import Derived.Test.YtkdndabpaajkaaaGreatDoorRows
import Derived.Test.YtkdndabpaajkaaaGreatDoorCards
import Derived.Test.YtkdndabpaajkaaaGreatDoorTie
import Derived.Test.YtkdndabpaajkaaaGreatDoorLaidA
import Derived.Test.YtkdndabpaajkaaaGreatDoorAx24
import Derived.Test.YtkdndabpaajkaaaGreatDoorPureEventChecks
import Derived.WalkKit
import Derived.ProofKit
import Derived.OpenShut
import Derived.ShutString
import Derived.ChangeOld
import Derived.Below
import Derived.SizedLaws
import Derived.Carry
import Derived.Lay
import Derived.SevenTiedAt
import Derived.LaidMore
import Derived.Stop.Joined
import Derived.Lib.SmallJoins
namespace Go.Proofs.YtkdndabpaajkaaaGreatDoor.eventChecks
open Go.ChangeShapes Go.WideShapes Go.ChangeAt Go.RowKit
open Go.ChangeMaps (open_string shut_string)
open Go.Proofs.YtkdndabpaajkaaaGreatDoorW.PrintWords Go.Proofs.YtkdndabpaajkaaaGreatDoorW.PrintLast
set_option linter.unusedVariables false
theorem own : ownKnob Tryz.prog.godebug = none := by kernel_rfl
theorem laidOut : laidOutB Tryz.prog = true := by kernel_rfl
set_option maxRecDepth 100000 in
theorem lifted (os : Os) (started : os.Started) (H : Type) (enc : TypeId × Value → H) :
    ReturnsInHanded {} Tryz.checked os 8 .any (fun w args => (Rows.eventChecksSpec.pre enc Tryz.prog Tryz.f8 [] false w args ∧ laidMetH Tryz.prog laidList w) ∧ sizedMet enc Tryz.prog Tryz.f8 (OpenSpec.ofChange Rows.eventChecksSpec) false w args)
      (Rows.eventChecksSpec.post enc Tryz.prog Tryz.f8 false true false false) := by
  refine handed_shaped (C := Tryz.checked) (X := fun w _ => laidMetH Tryz.prog laidList w) (fun _ _ _ hh h => h.of_heap hh) own started (by kernel_rfl) Tryz.func8
    (ChangeSpec.witness_shaped (enc := enc) (C := Tryz.checked) (os := os) (X := fun w _ => laidMetH Tryz.prog laidList w) false (World.laidAll Tryz.prog os laidList) #[.agg #[.int .i64 0, .int .i64 0, .int .i64 0, .string ByteArray.empty, .slice none 0 0], .agg #[.int .i64 0, .int .i64 0, .int .i64 0, .string ByteArray.empty, .slice none 0 0]] 8 (World.laidAll_os _ _ _)
      (World.shaped_of_ZipB (by kernel_rfl) (by kernel_rfl)) (by kernel_rfl) (by kernel_rfl) (by kernel_rfl)
      (by rw [MakeChecks.laidMetH_plain _ _ _ (by kernel_rfl)]; exact laidMet_laidAll _ (by kernel_rfl) (by kernel_rfl))) ?_
  intro W base args ds gs before hsh hval0 hW _ hsz0 hL _
  have hsz : (DataW.weightsEach Tryz.prog (Tryz.f8.params.toList ++ Rows.eventChecksSpec.plain.varTypes Tryz.prog) (ds ++ gs)).all (· ≤ reachBytes) = true := hsz0
  have hval : ∀ (j : Nat) t v, Tryz.f8.params[j]? = some t → args[j]? = some v → Value.okWide Tryz.prog W .any base t v := hval0
  have hW' := hW
  obtain ⟨p, q, hA0, hV, rfl, hfz, hnd⟩ := hW
  have hA : DataW.TrodAll enc Tryz.prog W 0 (fun _ => true) true Tryz.f8.params.toList args.toList ds p := hA0
  rw [Tryz.params8] at hA hval hsz
  obtain ⟨v0, vs0, d0, ds0, p0, q0, hargs, rfl, rfl, h0, r0⟩ := trodAll_cons hA
  obtain ⟨v1, vs1, d1, ds1, p1, q1, rfl, rfl, rfl, h1, r1⟩ := trodAll_cons r0
  obtain ⟨rfl, rfl, rfl⟩ := trodAll_nil r1
  obtain rfl : args = #[v0, v1] := by cases args; simp_all
  obtain ⟨rfl, rfl⟩ := trodVars_none hV
  have k0 := h0
  have lt0 : ∀ x ∈ p0, x.block < W.heap.size := by obtain ⟨m, hm⟩ := k0; exact DataW.trod_lt m _ _ _ hm
  obtain ⟨cs0, rfl, hn0⟩ := okWide_struct Tryz.underlying66 (hval 0 66 v0 rfl rfl)
  obtain ⟨fu0, hf0⟩ := h0
  have hl0 : cs0.toList.length = 5 := by rw [Array.length_toList]; exact hn0.trans (by kernel_rfl)
  obtain ⟨c0_0, c0_1, c0_2, c0_3, c0_4, ec0⟩ : ∃ c0_0 c0_1 c0_2 c0_3 c0_4, cs0.toList = [c0_0, c0_1, c0_2, c0_3, c0_4] := by
    match cs0.toList, hl0 with
    | [c0_0, c0_1, c0_2, c0_3, c0_4], _ => exact ⟨c0_0, c0_1, c0_2, c0_3, c0_4, rfl⟩
  obtain rfl : cs0 = #[c0_0, c0_1, c0_2, c0_3, c0_4] := by rw [← Array.toArray_toList (xs := cs0), ec0]
  replace hf0 : DataW.trod enc Tryz.prog W 0 (fun _ => true) true fu0 66 [c0_0, c0_1, c0_2, c0_3, c0_4] = some (d0, p0) := hf0
  obtain ⟨xsq0, nq0, edq0, efq0, hlq0, hxq0, hfq0⟩ := DataW.trod_struct Tryz.underlying66 hf0
  have zq0_0 : Tryz.prog.cellsOf 25 = 3 := by kernel_rfl
  obtain ⟨xq0_0, hxq0_0⟩ : ∃ y, xsq0[0]? = some y := ⟨_, List.getElem?_eq_getElem (by rw [hxq0]; decide)⟩
  have gq0_0 := (hfq0 0 _ rfl).trans hxq0_0
  replace gq0_0 : DataW.trod enc Tryz.prog W 0 (fun _ => true) true nq0 25 (List.take (Tryz.prog.cellsOf 25) (List.drop 0 [c0_0, c0_1, c0_2, c0_3, c0_4])) = some xq0_0 := gq0_0
  rw [zq0_0] at gq0_0
  replace gq0_0 : DataW.trod enc Tryz.prog W 0 (fun _ => true) true nq0 25 [c0_0, c0_1, c0_2] = some xq0_0 := gq0_0
  obtain ⟨xsq0_0, nq0_0, edq0_0, efq0_0, hlq0_0, hxq0_0, hfq0_0⟩ := DataW.trod_struct Tryz.underlying25 gq0_0
  have zq0_0_0 : Tryz.prog.cellsOf 3 = 1 := by kernel_rfl
  obtain ⟨xq0_0_0, hxq0_0_0⟩ : ∃ y, xsq0_0[0]? = some y := ⟨_, List.getElem?_eq_getElem (by rw [hxq0_0]; decide)⟩
  have gq0_0_0 := (hfq0_0 0 _ rfl).trans hxq0_0_0
  replace gq0_0_0 : DataW.trod enc Tryz.prog W 0 (fun _ => true) true nq0_0 3 (List.take (Tryz.prog.cellsOf 3) (List.drop 0 [c0_0, c0_1, c0_2])) = some xq0_0_0 := gq0_0_0
  rw [zq0_0_0] at gq0_0_0
  replace gq0_0_0 : DataW.trod enc Tryz.prog W 0 (fun _ => true) true nq0_0 3 [c0_0] = some xq0_0_0 := gq0_0_0
  obtain ⟨aq0_0_0, eq0_0_0, _, wq0_0_0⟩ := DataW.trod_int Tryz.underlying3 gq0_0_0
  have Eq0_0_0 := (List.cons.inj eq0_0_0).1
  have zq0_0_1 : Tryz.prog.cellsOf 3 = 1 := by kernel_rfl
  obtain ⟨xq0_0_1, hxq0_0_1⟩ : ∃ y, xsq0_0[1]? = some y := ⟨_, List.getElem?_eq_getElem (by rw [hxq0_0]; decide)⟩
  have gq0_0_1 := (hfq0_0 1 _ rfl).trans hxq0_0_1
  replace gq0_0_1 : DataW.trod enc Tryz.prog W 0 (fun _ => true) true nq0_0 3 (List.take (Tryz.prog.cellsOf 3) (List.drop 1 [c0_0, c0_1, c0_2])) = some xq0_0_1 := gq0_0_1
  rw [zq0_0_1] at gq0_0_1
  replace gq0_0_1 : DataW.trod enc Tryz.prog W 0 (fun _ => true) true nq0_0 3 [c0_1] = some xq0_0_1 := gq0_0_1
  obtain ⟨aq0_0_1, eq0_0_1, _, wq0_0_1⟩ := DataW.trod_int Tryz.underlying3 gq0_0_1
  have Eq0_0_1 := (List.cons.inj eq0_0_1).1
  have zq0_0_2 : Tryz.prog.cellsOf 3 = 1 := by kernel_rfl
  obtain ⟨xq0_0_2, hxq0_0_2⟩ : ∃ y, xsq0_0[2]? = some y := ⟨_, List.getElem?_eq_getElem (by rw [hxq0_0]; decide)⟩
  have gq0_0_2 := (hfq0_0 2 _ rfl).trans hxq0_0_2
  replace gq0_0_2 : DataW.trod enc Tryz.prog W 0 (fun _ => true) true nq0_0 3 (List.take (Tryz.prog.cellsOf 3) (List.drop 2 [c0_0, c0_1, c0_2])) = some xq0_0_2 := gq0_0_2
  rw [zq0_0_2] at gq0_0_2
  replace gq0_0_2 : DataW.trod enc Tryz.prog W 0 (fun _ => true) true nq0_0 3 [c0_2] = some xq0_0_2 := gq0_0_2
  obtain ⟨aq0_0_2, eq0_0_2, _, wq0_0_2⟩ := DataW.trod_int Tryz.underlying3 gq0_0_2
  have Eq0_0_2 := (List.cons.inj eq0_0_2).1
  have zq0_1 : Tryz.prog.cellsOf 9 = 1 := by kernel_rfl
  obtain ⟨xq0_1, hxq0_1⟩ : ∃ y, xsq0[1]? = some y := ⟨_, List.getElem?_eq_getElem (by rw [hxq0]; decide)⟩
  have gq0_1 := (hfq0 1 _ rfl).trans hxq0_1
  replace gq0_1 : DataW.trod enc Tryz.prog W 0 (fun _ => true) true nq0 9 (List.take (Tryz.prog.cellsOf 9) (List.drop 3 [c0_0, c0_1, c0_2, c0_3, c0_4])) = some xq0_1 := gq0_1
  rw [zq0_1] at gq0_1
  replace gq0_1 : DataW.trod enc Tryz.prog W 0 (fun _ => true) true nq0 9 [c0_3] = some xq0_1 := gq0_1
  obtain ⟨aq0_1, eq0_1, _, _⟩ := DataW.trod_string Tryz.underlying9 gq0_1
  have Eq0_1 := (List.cons.inj eq0_1).1
  have zq0_2 : Tryz.prog.cellsOf 64 = 1 := by kernel_rfl
  obtain ⟨xq0_2, hxq0_2⟩ : ∃ y, xsq0[2]? = some y := ⟨_, List.getElem?_eq_getElem (by rw [hxq0]; decide)⟩
  have gq0_2 := (hfq0 2 _ rfl).trans hxq0_2
  replace gq0_2 : DataW.trod enc Tryz.prog W 0 (fun _ => true) true nq0 64 (List.take (Tryz.prog.cellsOf 64) (List.drop 4 [c0_0, c0_1, c0_2, c0_3, c0_4])) = some xq0_2 := gq0_2
  rw [zq0_2] at gq0_2
  replace gq0_2 : DataW.trod enc Tryz.prog W 0 (fun _ => true) true nq0 64 [c0_4] = some xq0_2 := gq0_2
  obtain ⟨Bq0_2, cq0_2, lq0_2, eq0_2, hcq0_2, hmq0_2, hCq0_2, hwq0_2⟩ := open_rowK A.k76 (fun v : A.S76 => (Lit.int .i64 v.f1.f0).wf = true ∧ (Lit.int .i64 v.f1.f1).wf = true) Tryz.underlying64 (show Tryz.prog.cellsOf 76 = A.k76.sz by kernel_rfl) open_T76 gq0_2
  have Eq0_2 := (List.cons.inj eq0_2).1
  subst Eq0_0_0
  subst Eq0_0_1
  subst Eq0_0_2
  subst Eq0_1
  subst Eq0_2
  have k1 := h1
  have lt1 : ∀ x ∈ p1, x.block < W.heap.size := by obtain ⟨m, hm⟩ := k1; exact DataW.trod_lt m _ _ _ hm
  obtain ⟨cs1, rfl, hn1⟩ := okWide_struct Tryz.underlying66 (hval 1 66 v1 rfl rfl)
  obtain ⟨fu1, hf1⟩ := h1
  have hl1 : cs1.toList.length = 5 := by rw [Array.length_toList]; exact hn1.trans (by kernel_rfl)
  obtain ⟨c1_0, c1_1, c1_2, c1_3, c1_4, ec1⟩ : ∃ c1_0 c1_1 c1_2 c1_3 c1_4, cs1.toList = [c1_0, c1_1, c1_2, c1_3, c1_4] := by
    match cs1.toList, hl1 with
    | [c1_0, c1_1, c1_2, c1_3, c1_4], _ => exact ⟨c1_0, c1_1, c1_2, c1_3, c1_4, rfl⟩
  obtain rfl : cs1 = #[c1_0, c1_1, c1_2, c1_3, c1_4] := by rw [← Array.toArray_toList (xs := cs1), ec1]
  replace hf1 : DataW.trod enc Tryz.prog W 0 (fun _ => true) true fu1 66 [c1_0, c1_1, c1_2, c1_3, c1_4] = some (d1, p1) := hf1
  obtain ⟨xsq1, nq1, edq1, efq1, hlq1, hxq1, hfq1⟩ := DataW.trod_struct Tryz.underlying66 hf1
  have zq1_0 : Tryz.prog.cellsOf 25 = 3 := by kernel_rfl
  obtain ⟨xq1_0, hxq1_0⟩ : ∃ y, xsq1[0]? = some y := ⟨_, List.getElem?_eq_getElem (by rw [hxq1]; decide)⟩
  have gq1_0 := (hfq1 0 _ rfl).trans hxq1_0
  replace gq1_0 : DataW.trod enc Tryz.prog W 0 (fun _ => true) true nq1 25 (List.take (Tryz.prog.cellsOf 25) (List.drop 0 [c1_0, c1_1, c1_2, c1_3, c1_4])) = some xq1_0 := gq1_0
  rw [zq1_0] at gq1_0
  replace gq1_0 : DataW.trod enc Tryz.prog W 0 (fun _ => true) true nq1 25 [c1_0, c1_1, c1_2] = some xq1_0 := gq1_0
  obtain ⟨xsq1_0, nq1_0, edq1_0, efq1_0, hlq1_0, hxq1_0, hfq1_0⟩ := DataW.trod_struct Tryz.underlying25 gq1_0
  have zq1_0_0 : Tryz.prog.cellsOf 3 = 1 := by kernel_rfl
  obtain ⟨xq1_0_0, hxq1_0_0⟩ : ∃ y, xsq1_0[0]? = some y := ⟨_, List.getElem?_eq_getElem (by rw [hxq1_0]; decide)⟩
  have gq1_0_0 := (hfq1_0 0 _ rfl).trans hxq1_0_0
  replace gq1_0_0 : DataW.trod enc Tryz.prog W 0 (fun _ => true) true nq1_0 3 (List.take (Tryz.prog.cellsOf 3) (List.drop 0 [c1_0, c1_1, c1_2])) = some xq1_0_0 := gq1_0_0
  rw [zq1_0_0] at gq1_0_0
  replace gq1_0_0 : DataW.trod enc Tryz.prog W 0 (fun _ => true) true nq1_0 3 [c1_0] = some xq1_0_0 := gq1_0_0
  obtain ⟨aq1_0_0, eq1_0_0, _, wq1_0_0⟩ := DataW.trod_int Tryz.underlying3 gq1_0_0
  have Eq1_0_0 := (List.cons.inj eq1_0_0).1
  have zq1_0_1 : Tryz.prog.cellsOf 3 = 1 := by kernel_rfl
  obtain ⟨xq1_0_1, hxq1_0_1⟩ : ∃ y, xsq1_0[1]? = some y := ⟨_, List.getElem?_eq_getElem (by rw [hxq1_0]; decide)⟩
  have gq1_0_1 := (hfq1_0 1 _ rfl).trans hxq1_0_1
  replace gq1_0_1 : DataW.trod enc Tryz.prog W 0 (fun _ => true) true nq1_0 3 (List.take (Tryz.prog.cellsOf 3) (List.drop 1 [c1_0, c1_1, c1_2])) = some xq1_0_1 := gq1_0_1
  rw [zq1_0_1] at gq1_0_1
  replace gq1_0_1 : DataW.trod enc Tryz.prog W 0 (fun _ => true) true nq1_0 3 [c1_1] = some xq1_0_1 := gq1_0_1
  obtain ⟨aq1_0_1, eq1_0_1, _, wq1_0_1⟩ := DataW.trod_int Tryz.underlying3 gq1_0_1
  have Eq1_0_1 := (List.cons.inj eq1_0_1).1
  have zq1_0_2 : Tryz.prog.cellsOf 3 = 1 := by kernel_rfl
  obtain ⟨xq1_0_2, hxq1_0_2⟩ : ∃ y, xsq1_0[2]? = some y := ⟨_, List.getElem?_eq_getElem (by rw [hxq1_0]; decide)⟩
  have gq1_0_2 := (hfq1_0 2 _ rfl).trans hxq1_0_2
  replace gq1_0_2 : DataW.trod enc Tryz.prog W 0 (fun _ => true) true nq1_0 3 (List.take (Tryz.prog.cellsOf 3) (List.drop 2 [c1_0, c1_1, c1_2])) = some xq1_0_2 := gq1_0_2
  rw [zq1_0_2] at gq1_0_2
  replace gq1_0_2 : DataW.trod enc Tryz.prog W 0 (fun _ => true) true nq1_0 3 [c1_2] = some xq1_0_2 := gq1_0_2
  obtain ⟨aq1_0_2, eq1_0_2, _, wq1_0_2⟩ := DataW.trod_int Tryz.underlying3 gq1_0_2
  have Eq1_0_2 := (List.cons.inj eq1_0_2).1
  have zq1_1 : Tryz.prog.cellsOf 9 = 1 := by kernel_rfl
  obtain ⟨xq1_1, hxq1_1⟩ : ∃ y, xsq1[1]? = some y := ⟨_, List.getElem?_eq_getElem (by rw [hxq1]; decide)⟩
  have gq1_1 := (hfq1 1 _ rfl).trans hxq1_1
  replace gq1_1 : DataW.trod enc Tryz.prog W 0 (fun _ => true) true nq1 9 (List.take (Tryz.prog.cellsOf 9) (List.drop 3 [c1_0, c1_1, c1_2, c1_3, c1_4])) = some xq1_1 := gq1_1
  rw [zq1_1] at gq1_1
  replace gq1_1 : DataW.trod enc Tryz.prog W 0 (fun _ => true) true nq1 9 [c1_3] = some xq1_1 := gq1_1
  obtain ⟨aq1_1, eq1_1, _, _⟩ := DataW.trod_string Tryz.underlying9 gq1_1
  have Eq1_1 := (List.cons.inj eq1_1).1
  have zq1_2 : Tryz.prog.cellsOf 64 = 1 := by kernel_rfl
  obtain ⟨xq1_2, hxq1_2⟩ : ∃ y, xsq1[2]? = some y := ⟨_, List.getElem?_eq_getElem (by rw [hxq1]; decide)⟩
  have gq1_2 := (hfq1 2 _ rfl).trans hxq1_2
  replace gq1_2 : DataW.trod enc Tryz.prog W 0 (fun _ => true) true nq1 64 (List.take (Tryz.prog.cellsOf 64) (List.drop 4 [c1_0, c1_1, c1_2, c1_3, c1_4])) = some xq1_2 := gq1_2
  rw [zq1_2] at gq1_2
  replace gq1_2 : DataW.trod enc Tryz.prog W 0 (fun _ => true) true nq1 64 [c1_4] = some xq1_2 := gq1_2
  obtain ⟨Bq1_2, cq1_2, lq1_2, eq1_2, hcq1_2, hmq1_2, hCq1_2, hwq1_2⟩ := open_rowK A.k76 (fun v : A.S76 => (Lit.int .i64 v.f1.f0).wf = true ∧ (Lit.int .i64 v.f1.f1).wf = true) Tryz.underlying64 (show Tryz.prog.cellsOf 76 = A.k76.sz by kernel_rfl) open_T76 gq1_2
  have Eq1_2 := (List.cons.inj eq1_2).1
  subst Eq1_0_0
  subst Eq1_0_1
  subst Eq1_0_2
  subst Eq1_1
  subst Eq1_2
  rw [MakeChecks.laidMetH_plain _ _ _ (by kernel_rfl)] at hL
  have hT : A.Tabs W := tabs_of_laid hL hsh
  clear hA0 hval0 hsz0 hsz
  obtain ⟨k, hk⟩ := Pure.EventChecks aq0_0_0 aq0_0_1 aq0_0_2 aq0_1 lq0_2 aq1_0_0 aq1_0_1 aq1_0_2 aq1_1 lq1_2 hmq0_2 hwq0_2 hmq1_2 hwq1_2
  refine (A.L06_EventChecks.calls k aq0_0_0 aq0_0_1 aq0_0_2 aq0_1 _ _ lq0_2 aq1_0_0 aq1_0_1 aq1_0_2 aq1_1 _ _ lq1_2 true W hCq0_2 hcq0_2 hCq1_2 hcq1_2 hT hk).mono fun e W' ⟨he, bel0⟩ => ?_
  have bel : Below W.heap.size W W' := bel0
  subst he
  exact ⟨_, rfl, _, _, _, [], _, [], hW', trodAll_mk1 (shut_bool Tryz.underlying4 _), (trodAll_cons_mk (Below.trod laidOut (by kernel_rfl) (of_decide_eq_true (by kernel_rfl)) k0 bel lt0) (trodAll_cons_mk (Below.trod laidOut (by kernel_rfl) (of_decide_eq_true (by kernel_rfl)) k1 bel lt1) trodAll_mk0)), rfl, bel.frame _, fun h => by cases h⟩
end Go.Proofs.YtkdndabpaajkaaaGreatDoor.eventChecks
