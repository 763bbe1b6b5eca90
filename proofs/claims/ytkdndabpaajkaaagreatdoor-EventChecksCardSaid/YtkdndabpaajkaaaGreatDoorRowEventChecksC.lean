/- The law EventChecks of the given program: for every input the call returns true, and each argument reads as before; the tables that it reads are tied to the program's text. The row is proved out of the contract of the law's function (walked) and the pure statement (Pure.EventChecks); the card out of the row and the given tie. -/
import Derived.Test.YtkdndabpaajkaaaGreatDoorRowEventChecksA
import Derived.Test.YtkdndabpaajkaaaGreatDoorRows
import Derived.Test.YtkdndabpaajkaaaGreatDoorCards
import Derived.Test.YtkdndabpaajkaaaGreatDoorTie
import Derived.Test.YtkdndabpaajkaaaGreatDoorLaidA
import Derived.Test.YtkdndabpaajkaaaGreatDoorAx24
import Derived.Test.YtkdndabpaajkaaaGreatDoorPureEventChecks
import Derived.WalkKit
import Derived.ProofKit
import Derived.OpenShut
import Derived.ShutString
import Derived.ChangeOld
import Derived.Below
import Derived.SizedLaws
import Derived.Carry
import Derived.Lay
import Derived.SevenTiedAt
import Derived.LaidMore
import Derived.Stop.Joined
import Derived.Lib.SmallJoins
namespace Go.Proofs.YtkdndabpaajkaaaGreatDoor.eventChecks
open Go.ChangeShapes Go.WideShapes Go.ChangeAt Go.RowKit
open Go.ChangeMaps (open_string shut_string)
open Go.Proofs.YtkdndabpaajkaaaGreatDoorW.PrintWords Go.Proofs.YtkdndabpaajkaaaGreatDoorW.PrintLast
set_option linter.unusedVariables false
theorem fact16 : ((Rows.eventChecksRow.loops == (Tryz.f8.params.toList ++ Rows.eventChecksSpec.plain.varTypes Tryz.checked.prog).any (Tryz.checked.prog.loopsFrom ·))) = true := by kernel_rfl
theorem fact17 : ((Rows.eventChecksRow.wideKeys == (Tryz.f8.params.toList ++ Rows.eventChecksSpec.plain.varTypes Tryz.checked.prog ++ Tryz.f8.resultTypes.toList).any (Tryz.checked.prog.wideKeysFrom ·))) = true := by kernel_rfl
theorem fact18 : (Rows.eventChecksSpec.vars.all (Tryz.checked.prog.varReadable ·)) = true := by kernel_rfl
theorem fact19 : (Tryz.f8.resultTypes.all (fun t => Tryz.checked.prog.readableRec t && decide (t < Tryz.checked.prog.types.size))) = true := by kernel_rfl
theorem fact20 : ((Rows.eventChecksRow.ifacesOut == Tryz.f8.resultTypes.toList.any (Tryz.checked.prog.ifacesRec ·))) = true := by kernel_rfl
theorem fact21 : ((Rows.eventChecksRow.loopsOut == Tryz.f8.resultTypes.toList.any (Tryz.checked.prog.loopsFrom ·))) = true := by kernel_rfl
theorem fact22 : ((Rows.eventChecksRow.plainKeys == Tryz.checked.prog.plainKeys)) = true := by kernel_rfl
theorem fact23 : (Rows.eventChecksRow.shortTexts.isNone) = true := by kernel_rfl
theorem fact24 : (Tryz.checked.prog.stopsHeard) = true := by kernel_rfl
theorem fact25 : (Tryz.checked.prog.mayEnter) = true := by kernel_rfl
theorem fact26 : ((Rows.eventChecksRow.lifted == Tryz.checked.prog.liftsFinal)) = true := by kernel_rfl
theorem fact27 : ((Tryz.checked.prog.make == some Rows.eventChecksRow.make)) = true := by kernel_rfl
theorem fact28 : ((Rows.eventChecksRow.kinds == (if Rows.eventChecksRow.domain.isEmpty then [] else Tryz.f8.params.toList.map fun t => match Tryz.checked.prog.underlying t with | some (.int k) => some k | _ => none))) = true := by kernel_rfl
theorem fact29 : ((Rows.eventChecksRow.pinned == Rows.eventChecksRow.pinnedBy)) = true := by kernel_rfl
theorem fact30 : ((Rows.eventChecksRow.veiled == (Tryz.f8.params.toList ++ Rows.eventChecksSpec.plain.varTypes Tryz.checked.prog ++ Tryz.f8.resultTypes.toList).any (Tryz.checked.prog.veiledRec ·))) = true := by kernel_rfl
theorem fact31 : (Rows.eventChecksRow.veiledFits Tryz.checked.prog Tryz.f8.params.toList (Tryz.f8.params.toList ++ Rows.eventChecksSpec.plain.varTypes Tryz.checked.prog ++ Tryz.f8.resultTypes.toList)) = true := by kernel_rfl
end Go.Proofs.YtkdndabpaajkaaaGreatDoor.eventChecks
