/- The law ForestFits of the given program: for every input the call returns true, and each argument reads as before; the tables that it reads are tied to the program's text. The row is proved out of the contract of the law's function (walked) and the pure statement (Pure.ForestFits); the card out of the row and the given tie. -/
import Derived.Test.YtpjjbaclphoilaaGreatDoorRowForestFitsA
import Derived.Test.YtpjjbaclphoilaaGreatDoorRows
import Derived.Test.YtpjjbaclphoilaaGreatDoorCards
import Derived.Test.YtpjjbaclphoilaaGreatDoorTie
import Derived.Test.YtpjjbaclphoilaaGreatDoorLaidA
import Derived.Test.YtpjjbaclphoilaaGreatDoorAx24
import Derived.Test.YtpjjbaclphoilaaGreatDoorPureForestFits
import Derived.Test.YtpjjbaclphoilaaGreatDoorWSized
import Derived.WalkKit
import Derived.ProofKit
import Derived.OpenShut
import Derived.ShutString
import Derived.ChangeOld
import Derived.Below
import Derived.SizedLaws
import Derived.Carry
import Derived.Lay
import Derived.SevenTiedAt
import Derived.LaidMore
import Derived.Stop.Joined
import Derived.Lib.SmallJoins
namespace Go.Proofs.YtpjjbaclphoilaaGreatDoor.forestFits
open Go.ChangeShapes Go.WideShapes Go.ChangeAt Go.RowKit
open Go.ChangeMaps (open_string shut_string)
open Go.Proofs.YtpjjbaclphoilaaGreatDoorW.PrintWords Go.Proofs.YtpjjbaclphoilaaGreatDoorW.PrintLast
set_option linter.unusedVariables false
theorem andT {a b : Bool} (x : a = true) (y : b = true) : (a && b) = true := by rw [x, y]; rfl
theorem fact0 : (Rows.forestFitsRow.wf (OpenSpec.ofChange Rows.forestFitsSpec)) = true := by kernel_rfl
theorem fact1 : (laidOutB Tryz.checked.prog) = true := by kernel_rfl
theorem fact2 : (mapsRowed Tryz.checked.prog) = true := by kernel_rfl
theorem fact3 : (Tryz.f6.params.all (Tryz.checked.prog.readableRec ·)) = true := by kernel_rfl
theorem fact4 : (namedTie Tryz.checked.prog Rows.forestFitsRow.named Rows.forestFitsSpec.vars) = true := by kernel_rfl
theorem fact5 : ((Rows.forestFitsRow.stops == [])) = true := by kernel_rfl
theorem fact6 : ((Tryz.checked.prog.stops == [])) = true := by kernel_rfl
theorem fact7 : ((Rows.forestFitsRow.knobs == [])) = true := by kernel_rfl
theorem fact8 : ((Tryz.checked.prog.stopKnobs == [])) = true := by kernel_rfl
theorem fact9 : ((Rows.forestFitsRow.inPlace == Tryz.checked.prog.inPlace 6)) = true := by kernel_rfl
theorem fact10 : ((Rows.forestFitsRow.unfollowed == Tryz.checked.prog.unfollowed 6)) = true := by kernel_rfl
theorem fact11 : ((Rows.forestFitsRow.recurses == Tryz.checked.prog.recurses 6)) = true := by kernel_rfl
theorem fact12 : ((Rows.forestFitsRow.named == Tryz.checked.prog.varsNamed 6)) = true := by kernel_rfl
theorem fact13 : ((Rows.forestFitsRow.maps == (Tryz.f6.params.toList ++ Rows.forestFitsSpec.plain.varTypes Tryz.checked.prog).any (Tryz.checked.prog.mapsRec ·))) = true := by kernel_rfl
theorem fact14 : ((Rows.forestFitsRow.ifaces == (Tryz.f6.params.toList ++ Rows.forestFitsSpec.plain.varTypes Tryz.checked.prog).any (Tryz.checked.prog.ifacesRec ·))) = true := by kernel_rfl
theorem fact15 : ((Rows.forestFitsRow.mapsOut == Tryz.checked.prog.mapsAmong Tryz.f6.resultTypes.toList)) = true := by kernel_rfl
theorem fact16 : ((Rows.forestFitsRow.loops == (Tryz.f6.params.toList ++ Rows.forestFitsSpec.plain.varTypes Tryz.checked.prog).any (Tryz.checked.prog.loopsFrom ·))) = true := by kernel_rfl
theorem fact17 : ((Rows.forestFitsRow.wideKeys == (Tryz.f6.params.toList ++ Rows.forestFitsSpec.plain.varTypes Tryz.checked.prog ++ Tryz.f6.resultTypes.toList).any (Tryz.checked.prog.wideKeysFrom ·))) = true := by kernel_rfl
theorem fact18 : (Rows.forestFitsSpec.vars.all (Tryz.checked.prog.varReadable ·)) = true := by kernel_rfl
theorem fact19 : (Tryz.f6.resultTypes.all (fun t => Tryz.checked.prog.readableRec t && decide (t < Tryz.checked.prog.types.size))) = true := by kernel_rfl
theorem fact20 : ((Rows.forestFitsRow.ifacesOut == Tryz.f6.resultTypes.toList.any (Tryz.checked.prog.ifacesRec ·))) = true := by kernel_rfl
theorem fact21 : ((Rows.forestFitsRow.loopsOut == Tryz.f6.resultTypes.toList.any (Tryz.checked.prog.loopsFrom ·))) = true := by kernel_rfl
theorem fact22 : ((Rows.forestFitsRow.plainKeys == Tryz.checked.prog.plainKeys)) = true := by kernel_rfl
theorem fact23 : (Rows.forestFitsRow.shortTexts.isNone) = true := by kernel_rfl
theorem fact24 : (Tryz.checked.prog.stopsHeard) = true := by kernel_rfl
theorem fact25 : (Tryz.checked.prog.mayEnter) = true := by kernel_rfl
theorem fact26 : ((Rows.forestFitsRow.lifted == Tryz.checked.prog.liftsFinal)) = true := by kernel_rfl
theorem fact27 : ((Tryz.checked.prog.make == some Rows.forestFitsRow.make)) = true := by kernel_rfl
theorem fact28 : ((Rows.forestFitsRow.kinds == (if Rows.forestFitsRow.domain.isEmpty then [] else Tryz.f6.params.toList.map fun t => match Tryz.checked.prog.underlying t with | some (.int k) => some k | _ => none))) = true := by kernel_rfl
theorem fact29 : ((Rows.forestFitsRow.pinned == Rows.forestFitsRow.pinnedBy)) = true := by kernel_rfl
theorem fact30 : ((Rows.forestFitsRow.veiled == (Tryz.f6.params.toList ++ Rows.forestFitsSpec.plain.varTypes Tryz.checked.prog ++ Tryz.f6.resultTypes.toList).any (Tryz.checked.prog.veiledRec ·))) = true := by kernel_rfl
theorem fact31 : (Rows.forestFitsRow.veiledFits Tryz.checked.prog Tryz.f6.params.toList (Tryz.f6.params.toList ++ Rows.forestFitsSpec.plain.varTypes Tryz.checked.prog ++ Tryz.f6.resultTypes.toList)) = true := by kernel_rfl
set_option maxRecDepth 100000 in
theorem closed : joinedFacts Tryz.checked.prog 6 Tryz.f6 Rows.forestFitsSpec Rows.forestFitsRow = true := (andT (andT (andT (andT (andT (andT (andT (andT (andT (andT (andT (andT (andT (andT (andT (andT (andT (andT (andT (andT (andT (andT (andT (andT (andT (andT (andT (andT (andT (andT (andT fact0 fact1) fact2) fact3) fact4) fact5) fact6) fact7) fact8) fact9) fact10) fact11) fact12) fact13) fact14) fact15) fact16) fact17) fact18) fact19) fact20) fact21) fact22) fact23) fact24) fact25) fact26) fact27) fact28) fact29) fact30) fact31)
theorem over : Rows.forestFitsRow.holds Tryz.pinned (OpenSpec.ofChange Rows.forestFitsSpec) :=
  OpenClaim.holds_of_wide 6 Tryz.f6 rfl rfl rfl rfl rfl rfl rfl ⟨rfl, rfl, rfl, rfl, rfl⟩ rfl rfl rfl rfl rfl (by kernel_rfl) Tryz.func6 closed
    (of_decide_eq_true (by kernel_rfl)) (by unfold Func.isWrapper; first | (rw [if_pos (by decide +kernel)]; kernel_rfl) | (rw [if_neg (by decide +kernel)]; exact ⟨rfl, rfl⟩))
    (fun os started H enc _ => lifted os started H enc)
theorem card : Rows.ForestFitsCardSaid :=
  Claim7.holds_tied_plain_at .later [] [.data, .pinned] true (true, "91ec58f4588b100de6bc04587e9b4e5add4662203df35dfc8b3e16e5fe4a7bea") false over (fun _ h => by cases h) (by kernel_rfl) (fun _ h => by cases h) forestFits_row_tie rfl ⟨rfl, rfl⟩ (by kernel_rfl) rfl
    (fun f fn hf hfn => by
      obtain rfl : f = 6 := Option.some.inj ((show Tryz.prog.funcNamed "caduceus/caduceuslaw05.ForestFits" = some 6 by kernel_rfl).symm.trans hf) |>.symm
      obtain rfl : fn = Tryz.f6 := (Option.some.inj (Tryz.func6.symm.trans hfn)).symm
      exact ⟨by kernel_rfl, fun j t ht => by
        rw [Tryz.params6] at ht
        have hm : t ∈ [22, 66, 9] := by simpa using Array.mem_of_getElem? ht
        have hall : ([22, 66, 9].all fun u => !Tryz.prog.wantsStandIn u) = true := by kernel_rfl
        exact (show Tryz.prog.wantsStandIn t = false by simpa using List.all_eq_true.1 hall t hm)⟩)
    (by kernel_rfl)
end Go.Proofs.YtpjjbaclphoilaaGreatDoor.forestFits
namespace Go.Proofs.YtpjjbaclphoilaaGreatDoor
theorem forestFits_card : Rows.ForestFitsCardSaid := forestFits.card
#print axioms forestFits_card
end Go.Proofs.YtpjjbaclphoilaaGreatDoor