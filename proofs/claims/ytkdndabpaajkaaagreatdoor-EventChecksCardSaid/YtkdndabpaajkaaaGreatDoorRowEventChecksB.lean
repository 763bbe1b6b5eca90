/- The law EventChecks of the given program: for every input the call returns true, and each argument reads as before; the tables that it reads are tied to the program's text. The row is proved out of the contract of the law's function (walked) and the pure statement (Pure.EventChecks); the card out of the row and the given tie. -/
import Derived.Test.YtkdndabpaajkaaaGreatDoorRowEventChecksA
import Derived.Test.YtkdndabpaajkaaaGreatDoorRows
import Derived.Test.YtkdndabpaajkaaaGreatDoorCards
import Derived.Test.YtkdndabpaajkaaaGreatDoorTie
import Derived.Test.YtkdndabpaajkaaaGreatDoorLaidA
import Derived.Test.YtkdndabpaajkaaaGreatDoorAx24
import Derived.Test.YtkdndabpaajkaaaGreatDoorPureEventChecks
import Derived.WalkKit
import Derived.ProofKit
import Derived.OpenShut
import Derived.ShutString
import Derived.ChangeOld
import Derived.Below
import Derived.SizedLaws
import Derived.Carry
import Derived.Lay
import Derived.SevenTiedAt
import Derived.LaidMore
import Derived.Stop.Joined
import Derived.Lib.SmallJoins
namespace Go.Proofs.YtkdndabpaajkaaaGreatDoor.eventChecks
open Go.ChangeShapes Go.WideShapes Go.ChangeAt Go.RowKit
open Go.ChangeMaps (open_string shut_string)
open Go.Proofs.YtkdndabpaajkaaaGreatDoorW.PrintWords Go.Proofs.YtkdndabpaajkaaaGreatDoorW.PrintLast
set_option linter.unusedVariables false
theorem fact0 : (Rows.eventChecksRow.wf (OpenSpec.ofChange Rows.eventChecksSpec)) = true := by kernel_rfl
theorem fact1 : (laidOutB Tryz.checked.prog) = true := by kernel_rfl
theorem fact2 : (mapsRowed Tryz.checked.prog) = true := by kernel_rfl
theorem fact3 : (Tryz.f8.params.all (Tryz.checked.prog.readableRec ·)) = true := by kernel_rfl
theorem fact4 : (namedTie Tryz.checked.prog Rows.eventChecksRow.named Rows.eventChecksSpec.vars) = true := by kernel_rfl
theorem fact5 : ((Rows.eventChecksRow.stops == [])) = true := by kernel_rfl
theorem fact6 : ((Tryz.checked.prog.stops == [])) = true := by kernel_rfl
theorem fact7 : ((Rows.eventChecksRow.knobs == [])) = true := by kernel_rfl
theorem fact8 : ((Tryz.checked.prog.stopKnobs == [])) = true := by kernel_rfl
theorem fact9 : ((Rows.eventChecksRow.inPlace == Tryz.checked.prog.inPlace 8)) = true := by kernel_rfl
theorem fact10 : ((Rows.eventChecksRow.unfollowed == Tryz.checked.prog.unfollowed 8)) = true := by kernel_rfl
theorem fact11 : ((Rows.eventChecksRow.recurses == Tryz.checked.prog.recurses 8)) = true := by kernel_rfl
theorem fact12 : ((Rows.eventChecksRow.named == Tryz.checked.prog.varsNamed 8)) = true := by kernel_rfl
theorem fact13 : ((Rows.eventChecksRow.maps == (Tryz.f8.params.toList ++ Rows.eventChecksSpec.plain.varTypes Tryz.checked.prog).any (Tryz.checked.prog.mapsRec ·))) = true := by kernel_rfl
theorem fact14 : ((Rows.eventChecksRow.ifaces == (Tryz.f8.params.toList ++ Rows.eventChecksSpec.plain.varTypes Tryz.checked.prog).any (Tryz.checked.prog.ifacesRec ·))) = true := by kernel_rfl
theorem fact15 : ((Rows.eventChecksRow.mapsOut == Tryz.checked.prog.mapsAmong Tryz.f8.resultTypes.toList)) = true := by kernel_rfl
end Go.Proofs.YtkdndabpaajkaaaGreatDoor.eventChecks
