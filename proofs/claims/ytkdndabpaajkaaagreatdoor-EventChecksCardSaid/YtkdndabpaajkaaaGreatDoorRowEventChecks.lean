/- The law EventChecks of the given program: for every input the call returns true, and each argument reads as before; the tables that it reads are tied to the program's text. The row is proved out of the contract of the law's function (walked) and the pure statement (Pure.EventChecks); the card out of the row and the given tie. -/
import Derived.Test.YtkdndabpaajkaaaGreatDoorRowEventChecksA
import Derived.Test.YtkdndabpaajkaaaGreatDoorRows
import Derived.Test.YtkdndabpaajkaaaGreatDoorCards
import Derived.Test.YtkdndabpaajkaaaGreatDoorTie
import Derived.Test.YtkdndabpaajkaaaGreatDoorLaidA
import Derived.Test.YtkdndabpaajkaaaGreatDoorAx24
import Derived.Test.YtkdndabpaajkaaaGreatDoorPureEventChecks
import Derived.WalkKit
import Derived.ProofKit
import Derived.OpenShut
import Derived.ShutString
import Derived.ChangeOld
import Derived.Below
import Derived.SizedLaws
import Derived.Carry
import Derived.Lay
import Derived.SevenTiedAt
import Derived.LaidMore
import Derived.Stop.Joined
import Derived.Lib.SmallJoins
import Derived.Test.YtkdndabpaajkaaaGreatDoorRowEventChecksB
import Derived.Test.YtkdndabpaajkaaaGreatDoorRowEventChecksC
import Derived.Test.YtkdndabpaajkaaaGreatDoorRowEventChecksD
import Derived.Test.YtkdndabpaajkaaaGreatDoorRowEventChecksE
import Derived.Test.YtkdndabpaajkaaaGreatDoorRowEventChecksH
import Derived.Test.YtkdndabpaajkaaaGreatDoorRowEventChecksG
import Derived.Test.YtkdndabpaajkaaaGreatDoorRowEventChecksF
namespace Go.Proofs.YtkdndabpaajkaaaGreatDoor.eventChecks
open Go.ChangeShapes Go.WideShapes Go.ChangeAt Go.RowKit
open Go.ChangeMaps (open_string shut_string)
open Go.Proofs.YtkdndabpaajkaaaGreatDoorW.PrintWords Go.Proofs.YtkdndabpaajkaaaGreatDoorW.PrintLast
set_option linter.unusedVariables false
theorem card : Rows.EventChecksCardSaid :=
  Claim7.holds_tied_plain_at .later [] [.data, .data, .data, .data, .sentinel, .sentinel, .pinned] true (true, "f8dc26c9bff7d71c9fc5868705e39ace651b3db79eae34c89c1ce671be494ce7") true over (fun _ h => by cases h) wb (fun _ h => by cases h) eventChecks_row_tie rfl ⟨rfl, rfl⟩ mi rfl
    (fun f fn hf hfn => by
      obtain rfl : f = 8 := Option.some.inj (fn8.symm.trans hf) |>.symm
      obtain rfl : fn = Tryz.f8 := (Option.some.inj (Tryz.func8.symm.trans hfn)).symm
      exact ⟨lk, fun j t ht => by
        rw [Tryz.params8] at ht
        have hm : t ∈ [66, 66] := by simpa using Array.mem_of_getElem? ht
        obtain rfl : t = 66 := by simpa using hm
        exact st66⟩)
    gb
end Go.Proofs.YtkdndabpaajkaaaGreatDoor.eventChecks
namespace Go.Proofs.YtkdndabpaajkaaaGreatDoor
theorem eventChecks_card : Rows.EventChecksCardSaid := eventChecks.card
#print axioms eventChecks_card
end Go.Proofs.YtkdndabpaajkaaaGreatDoor