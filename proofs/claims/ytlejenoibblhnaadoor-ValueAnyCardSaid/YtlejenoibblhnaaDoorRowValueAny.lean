/- The law ValueAny of the given program: for every input the call returns true, and each argument reads as before; the tables that it reads are tied to the program's text. The row is proved out of the contract of the law's function (walked) and the pure statement (Pure.ValueAny); the card out of the row and the given tie. -/
import Derived.Test.YtlejenoibblhnaaDoorRowValueAnyA
import Derived.Test.YtlejenoibblhnaaDoorRows
import Derived.Test.YtlejenoibblhnaaDoorCards
import Derived.Test.YtlejenoibblhnaaDoorTie
import Derived.Test.YtlejenoibblhnaaDoorLaidA
import Derived.Test.YtlejenoibblhnaaDoorAx12
import Derived.Test.YtlejenoibblhnaaDoorPureValueAny
import Derived.WalkKit
import Derived.ProofKit
import Derived.OpenShut
import Derived.ShutString
import Derived.ChangeOld
import Derived.Below
import Derived.SizedLaws
import Derived.Carry
import Derived.Lay
import Derived.SevenTiedAt
import Derived.LaidMore
import Derived.Stop.Joined
import Derived.Lib.SmallJoins
namespace Go.Proofs.YtlejenoibblhnaaDoor.valueAny
open Go.ChangeShapes Go.WideShapes Go.ChangeAt Go.RowKit
open Go.ChangeMaps (open_string shut_string)
open Go.Proofs.YtlejenoibblhnaaDoorW.PrintWords Go.Proofs.YtlejenoibblhnaaDoorW.PrintLast
set_option linter.unusedVariables false
theorem andT {a b : Bool} (x : a = true) (y : b = true) : (a && b) = true := by rw [x, y]; rfl
theorem fact0 : (Rows.valueAnyRow.wf (OpenSpec.ofChange Rows.valueAnySpec)) = true := by kernel_rfl
theorem fact1 : (laidOutB Tryd.checked.prog) = true := by kernel_rfl
theorem fact2 : (mapsRowed Tryd.checked.prog) = true := by kernel_rfl
theorem fact3 : (Tryd.f4.params.all (Tryd.checked.prog.readableRec ·)) = true := by kernel_rfl
theorem fact4 : (namedTie Tryd.checked.prog Rows.valueAnyRow.named Rows.valueAnySpec.vars) = true := by kernel_rfl
theorem fact5 : ((Rows.valueAnyRow.stops == [])) = true := by kernel_rfl
theorem fact6 : ((Tryd.checked.prog.stops == [])) = true := by kernel_rfl
theorem fact7 : ((Rows.valueAnyRow.knobs == [])) = true := by kernel_rfl
theorem fact8 : ((Tryd.checked.prog.stopKnobs == [])) = true := by kernel_rfl
theorem fact9 : ((Rows.valueAnyRow.inPlace == Tryd.checked.prog.inPlace 4)) = true := by kernel_rfl
theorem fact10 : ((Rows.valueAnyRow.unfollowed == Tryd.checked.prog.unfollowed 4)) = true := by kernel_rfl
theorem fact11 : ((Rows.valueAnyRow.recurses == Tryd.checked.prog.recurses 4)) = true := by kernel_rfl
theorem fact12 : ((Rows.valueAnyRow.named == Tryd.checked.prog.varsNamed 4)) = true := by kernel_rfl
theorem fact13 : ((Rows.valueAnyRow.maps == (Tryd.f4.params.toList ++ Rows.valueAnySpec.plain.varTypes Tryd.checked.prog).any (Tryd.checked.prog.mapsRec ·))) = true := by kernel_rfl
theorem fact14 : ((Rows.valueAnyRow.ifaces == (Tryd.f4.params.toList ++ Rows.valueAnySpec.plain.varTypes Tryd.checked.prog).any (Tryd.checked.prog.ifacesRec ·))) = true := by kernel_rfl
theorem fact15 : ((Rows.valueAnyRow.mapsOut == Tryd.checked.prog.mapsAmong Tryd.f4.resultTypes.toList)) = true := by kernel_rfl
theorem fact16 : ((Rows.valueAnyRow.loops == (Tryd.f4.params.toList ++ Rows.valueAnySpec.plain.varTypes Tryd.checked.prog).any (Tryd.checked.prog.loopsFrom ·))) = true := by kernel_rfl
theorem fact17 : ((Rows.valueAnyRow.wideKeys == (Tryd.f4.params.toList ++ Rows.valueAnySpec.plain.varTypes Tryd.checked.prog ++ Tryd.f4.resultTypes.toList).any (Tryd.checked.prog.wideKeysFrom ·))) = true := by kernel_rfl
theorem fact18 : (Rows.valueAnySpec.vars.all (Tryd.checked.prog.varReadable ·)) = true := by kernel_rfl
theorem fact19 : (Tryd.f4.resultTypes.all (fun t => Tryd.checked.prog.readableRec t && decide (t < Tryd.checked.prog.types.size))) = true := by kernel_rfl
theorem fact20 : ((Rows.valueAnyRow.ifacesOut == Tryd.f4.resultTypes.toList.any (Tryd.checked.prog.ifacesRec ·))) = true := by kernel_rfl
theorem fact21 : ((Rows.valueAnyRow.loopsOut == Tryd.f4.resultTypes.toList.any (Tryd.checked.prog.loopsFrom ·))) = true := by kernel_rfl
theorem fact22 : ((Rows.valueAnyRow.plainKeys == Tryd.checked.prog.plainKeys)) = true := by kernel_rfl
theorem fact23 : (Rows.valueAnyRow.shortTexts.isNone) = true := by kernel_rfl
theorem fact24 : (Tryd.checked.prog.stopsHeard) = true := by kernel_rfl
theorem fact25 : (Tryd.checked.prog.mayEnter) = true := by kernel_rfl
theorem fact26 : ((Rows.valueAnyRow.lifted == Tryd.checked.prog.liftsFinal)) = true := by kernel_rfl
theorem fact27 : ((Tryd.checked.prog.make == some Rows.valueAnyRow.make)) = true := by kernel_rfl
theorem fact28 : ((Rows.valueAnyRow.kinds == (if Rows.valueAnyRow.domain.isEmpty then [] else Tryd.f4.params.toList.map fun t => match Tryd.checked.prog.underlying t with | some (.int k) => some k | _ => none))) = true := by kernel_rfl
theorem fact29 : ((Rows.valueAnyRow.pinned == Rows.valueAnyRow.pinnedBy)) = true := by kernel_rfl
theorem fact30 : ((Rows.valueAnyRow.veiled == (Tryd.f4.params.toList ++ Rows.valueAnySpec.plain.varTypes Tryd.checked.prog ++ Tryd.f4.resultTypes.toList).any (Tryd.checked.prog.veiledRec ·))) = true := by kernel_rfl
theorem fact31 : (Rows.valueAnyRow.veiledFits Tryd.checked.prog Tryd.f4.params.toList (Tryd.f4.params.toList ++ Rows.valueAnySpec.plain.varTypes Tryd.checked.prog ++ Tryd.f4.resultTypes.toList)) = true := by kernel_rfl
set_option maxRecDepth 100000 in
theorem closed : joinedFacts Tryd.checked.prog 4 Tryd.f4 Rows.valueAnySpec Rows.valueAnyRow = true := (andT (andT (andT (andT (andT (andT (andT (andT (andT (andT (andT (andT (andT (andT (andT (andT (andT (andT (andT (andT (andT (andT (andT (andT (andT (andT (andT (andT (andT (andT (andT fact0 fact1) fact2) fact3) fact4) fact5) fact6) fact7) fact8) fact9) fact10) fact11) fact12) fact13) fact14) fact15) fact16) fact17) fact18) fact19) fact20) fact21) fact22) fact23) fact24) fact25) fact26) fact27) fact28) fact29) fact30) fact31)
theorem over : Rows.valueAnyRow.holds Tryd.pinned (OpenSpec.ofChange Rows.valueAnySpec) :=
  OpenClaim.holds_of_wide 4 Tryd.f4 rfl rfl rfl rfl rfl rfl rfl ⟨rfl, rfl, rfl, rfl, rfl⟩ rfl rfl rfl rfl rfl (by kernel_rfl) Tryd.func4 closed
    (of_decide_eq_true (by kernel_rfl)) (by unfold Func.isWrapper; first | (rw [if_pos (by decide +kernel)]; kernel_rfl) | (rw [if_neg (by decide +kernel)]; exact ⟨rfl, rfl⟩))
    (fun os started H enc _ => lifted os started H enc)
theorem card : Rows.ValueAnyCardSaid :=
  Claim7.holds_tied_plain_at .later [] [.data, .data, .data, .data, .sentinel, .sentinel, .pinned] true (true, "a2226656982bcb657b87e7705740b4bbf67c0053f5c68e1d746850aa8420bba9") true over (fun _ h => by cases h) (by kernel_rfl) (fun _ h => by cases h) valueAny_row_tie rfl ⟨rfl, rfl⟩ (by kernel_rfl) rfl
    (fun f fn hf hfn => by
      obtain rfl : f = 4 := Option.some.inj ((show Tryd.prog.funcNamed "caduceus/caduceuslaw03.ValueAny" = some 4 by kernel_rfl).symm.trans hf) |>.symm
      obtain rfl : fn = Tryd.f4 := (Option.some.inj (Tryd.func4.symm.trans hfn)).symm
      exact ⟨by kernel_rfl, fun j t ht => by
        rw [Tryd.params4] at ht
        have hm : t ∈ [26] := by simpa using Array.mem_of_getElem? ht
        have hall : ([26].all fun u => !Tryd.prog.wantsStandIn u) = true := by kernel_rfl
        exact (show Tryd.prog.wantsStandIn t = false by simpa using List.all_eq_true.1 hall t hm)⟩)
    (by kernel_rfl)
end Go.Proofs.YtlejenoibblhnaaDoor.valueAny
namespace Go.Proofs.YtlejenoibblhnaaDoor
theorem valueAny_card : Rows.ValueAnyCardSaid := valueAny.card
#print axioms valueAny_card
end Go.Proofs.YtlejenoibblhnaaDoor