/-
  DERIVED. GIVEN WITH THE SEED: THE CARDS: each row of YtkdndabpaajkaaaGreatDoorRows.lean that lists a variable, with what it lists TIED to the program's text (the seventh form; the later family's looks); each row that meets fmt, with fmt's text TOLD by the authors' own Lean function (tested against real Go, not proved from fmt's source: count such statements apart). THE CARD IS WHAT COUNTS. Prove the row's statement (the work); the ties are given (YtkdndabpaajkaaaGreatDoorTie.lean); close each card by the builder's one call (the guide's Derived/Test/ToyasCard.lean, 'card_holds'). Laid BY PROGRAM, IN A SANDBOX (cutbox-door.mjs). By AI agents, Wed Nov 11 2026. No macro, syntax, notation, axiom, sorry.
-/
import Derived.Test.YtkdndabpaajkaaaGreatDoorRows
import GoSem.ClaimSeven
namespace Go.Proofs.YtkdndabpaajkaaaGreatDoor
namespace Rows

/-- THE TIED CARD OF 'caduceuslaw05.ForestMakes'. -/
def forestMakesCard : Claim7 := { stood := { row := forestMakesRow, standIns := [], harness := (true, "f8dc26c9bff7d71c9fc5868705e39ace651b3db79eae34c89c1ce671be494ce7"), looks := true }, kinds := [], alts := [], laidByText := true, laidKinds := [.data, .pinned], laidTests := true, laidLooks := .later }
def ForestMakesCardSaid : Prop := Claim7.holds Tryz.pinned (.plain (OpenSpec.ofChange forestMakesSpec)) forestMakesCard

/-- THE TIED CARD OF 'caduceuslaw05.ForestChains'. -/
def forestChainsCard : Claim7 := { stood := { row := forestChainsRow, standIns := [], harness := (true, "f8dc26c9bff7d71c9fc5868705e39ace651b3db79eae34c89c1ce671be494ce7"), looks := true }, kinds := [], alts := [], laidByText := true, laidKinds := [.data, .pinned], laidTests := true, laidLooks := .later }
def ForestChainsCardSaid : Prop := Claim7.holds Tryz.pinned (.plain (OpenSpec.ofChange forestChainsSpec)) forestChainsCard

/-- THE TIED CARD OF 'caduceuslaw05.ForestJoins'. -/
def forestJoinsCard : Claim7 := { stood := { row := forestJoinsRow, standIns := [], harness := (true, "f8dc26c9bff7d71c9fc5868705e39ace651b3db79eae34c89c1ce671be494ce7"), looks := true }, kinds := [], alts := [], laidByText := true, laidKinds := [.data, .pinned], laidTests := true, laidLooks := .later }
def ForestJoinsCardSaid : Prop := Claim7.holds Tryz.pinned (.plain (OpenSpec.ofChange forestJoinsSpec)) forestJoinsCard

/-- THE TIED CARD OF 'caduceuslaw05.ForestFits'. -/
def forestFitsCard : Claim7 := { stood := { row := forestFitsRow, standIns := [], harness := (true, "f8dc26c9bff7d71c9fc5868705e39ace651b3db79eae34c89c1ce671be494ce7"), looks := true }, kinds := [], alts := [], laidByText := true, laidKinds := [.data, .pinned], laidTests := true, laidLooks := .later }
def ForestFitsCardSaid : Prop := Claim7.holds Tryz.pinned (.plain (OpenSpec.ofChange forestFitsSpec)) forestFitsCard

/-- THE TIED CARD OF 'caduceuslaw05.ForestBack'. -/
def forestBackCard : Claim7 := { stood := { row := forestBackRow, standIns := [], harness := (true, "f8dc26c9bff7d71c9fc5868705e39ace651b3db79eae34c89c1ce671be494ce7"), looks := true }, kinds := [], alts := [], laidByText := true, laidKinds := [.data, .pinned], laidTests := true, laidLooks := .later }
def ForestBackCardSaid : Prop := Claim7.holds Tryz.pinned (.plain (OpenSpec.ofChange forestBackSpec)) forestBackCard

/-- THE TIED CARD OF 'caduceuslaw06.EventChecks'. -/
def eventChecksCard : Claim7 := { stood := { row := eventChecksRow, standIns := [], harness := (true, "f8dc26c9bff7d71c9fc5868705e39ace651b3db79eae34c89c1ce671be494ce7"), looks := true }, kinds := [], alts := [], laidByText := true, laidKinds := [.data, .data, .data, .data, .sentinel, .sentinel, .pinned], laidTests := true, laidLooks := .later }
def EventChecksCardSaid : Prop := Claim7.holds Tryz.pinned (.plain (OpenSpec.ofChange eventChecksSpec)) eventChecksCard

/-- THE TIED CARD OF 'caduceuslaw06.EventSorts'. -/
def eventSortsCard : Claim7 := { stood := { row := eventSortsRow, standIns := [], harness := (true, "f8dc26c9bff7d71c9fc5868705e39ace651b3db79eae34c89c1ce671be494ce7"), looks := true }, kinds := [], alts := [], laidByText := true, laidKinds := [.data, .data, .data, .data, .sentinel, .sentinel, .pinned], laidTests := true, laidLooks := .later }
def EventSortsCardSaid : Prop := Claim7.holds Tryz.pinned (.plain (OpenSpec.ofChange eventSortsSpec)) eventSortsCard

/-- THE TIED CARD OF 'caduceuslaw06.EventBack'. -/
def eventBackCard : Claim7 := { stood := { row := eventBackRow, standIns := [], harness := (true, "f8dc26c9bff7d71c9fc5868705e39ace651b3db79eae34c89c1ce671be494ce7"), looks := true }, kinds := [], alts := [], laidByText := true, laidKinds := [.data, .data, .data, .data, .sentinel, .sentinel, .pinned], laidTests := true, laidLooks := .later }
def EventBackCardSaid : Prop := Claim7.holds Tryz.pinned (.plain (OpenSpec.ofChange eventBackSpec)) eventBackCard

/-- THE TIED CARD OF 'caduceuslaw06.EventInherits'. -/
def eventInheritsCard : Claim7 := { stood := { row := eventInheritsRow, standIns := [], harness := (true, "f8dc26c9bff7d71c9fc5868705e39ace651b3db79eae34c89c1ce671be494ce7"), looks := true }, kinds := [], alts := [], laidByText := true, laidKinds := [.data, .data, .data, .data, .sentinel, .sentinel, .pinned], laidTests := true, laidLooks := .later }
def EventInheritsCardSaid : Prop := Claim7.holds Tryz.pinned (.plain (OpenSpec.ofChange eventInheritsSpec)) eventInheritsCard

/-- THE SECOND FORM's CARD OF 'caduceuslaw05.ForestMakes'. -/
def forestMakesUptoCard : Claim7 := { stood := { row := forestMakesUptoRow, standIns := [], harness := (true, "f8dc26c9bff7d71c9fc5868705e39ace651b3db79eae34c89c1ce671be494ce7"), looks := true }, kinds := [], alts := [], laidByText := true, laidKinds := [.data, .pinned], laidTests := true, laidLooks := .later }
def ForestMakesUptoCardSaid : Prop := Claim7.holds Tryz.pinned (.plain (OpenSpec.upto forestMakesSpec)) forestMakesUptoCard

/-- THE SECOND FORM's CARD OF 'caduceuslaw05.ForestChains'. -/
def forestChainsUptoCard : Claim7 := { stood := { row := forestChainsUptoRow, standIns := [], harness := (true, "f8dc26c9bff7d71c9fc5868705e39ace651b3db79eae34c89c1ce671be494ce7"), looks := true }, kinds := [], alts := [], laidByText := true, laidKinds := [.data, .pinned], laidTests := true, laidLooks := .later }
def ForestChainsUptoCardSaid : Prop := Claim7.holds Tryz.pinned (.plain (OpenSpec.upto forestChainsSpec)) forestChainsUptoCard

/-- THE SECOND FORM's CARD OF 'caduceuslaw05.ForestJoins'. -/
def forestJoinsUptoCard : Claim7 := { stood := { row := forestJoinsUptoRow, standIns := [], harness := (true, "f8dc26c9bff7d71c9fc5868705e39ace651b3db79eae34c89c1ce671be494ce7"), looks := true }, kinds := [], alts := [], laidByText := true, laidKinds := [.data, .pinned], laidTests := true, laidLooks := .later }
def ForestJoinsUptoCardSaid : Prop := Claim7.holds Tryz.pinned (.plain (OpenSpec.upto forestJoinsSpec)) forestJoinsUptoCard

/-- THE SECOND FORM's CARD OF 'caduceuslaw05.ForestFits'. -/
def forestFitsUptoCard : Claim7 := { stood := { row := forestFitsUptoRow, standIns := [], harness := (true, "f8dc26c9bff7d71c9fc5868705e39ace651b3db79eae34c89c1ce671be494ce7"), looks := true }, kinds := [], alts := [], laidByText := true, laidKinds := [.data, .pinned], laidTests := true, laidLooks := .later }
def ForestFitsUptoCardSaid : Prop := Claim7.holds Tryz.pinned (.plain (OpenSpec.upto forestFitsSpec)) forestFitsUptoCard

/-- THE SECOND FORM's CARD OF 'caduceuslaw05.ForestBack'. -/
def forestBackUptoCard : Claim7 := { stood := { row := forestBackUptoRow, standIns := [], harness := (true, "f8dc26c9bff7d71c9fc5868705e39ace651b3db79eae34c89c1ce671be494ce7"), looks := true }, kinds := [], alts := [], laidByText := true, laidKinds := [.data, .pinned], laidTests := true, laidLooks := .later }
def ForestBackUptoCardSaid : Prop := Claim7.holds Tryz.pinned (.plain (OpenSpec.upto forestBackSpec)) forestBackUptoCard

/-- THE SECOND FORM's CARD OF 'caduceuslaw06.EventChecks'. -/
def eventChecksUptoCard : Claim7 := { stood := { row := eventChecksUptoRow, standIns := [], harness := (true, "f8dc26c9bff7d71c9fc5868705e39ace651b3db79eae34c89c1ce671be494ce7"), looks := true }, kinds := [], alts := [], laidByText := true, laidKinds := [.data, .data, .data, .data, .sentinel, .sentinel, .pinned], laidTests := true, laidLooks := .later }
def EventChecksUptoCardSaid : Prop := Claim7.holds Tryz.pinned (.plain (OpenSpec.upto eventChecksSpec)) eventChecksUptoCard

/-- THE SECOND FORM's CARD OF 'caduceuslaw06.EventSorts'. -/
def eventSortsUptoCard : Claim7 := { stood := { row := eventSortsUptoRow, standIns := [], harness := (true, "f8dc26c9bff7d71c9fc5868705e39ace651b3db79eae34c89c1ce671be494ce7"), looks := true }, kinds := [], alts := [], laidByText := true, laidKinds := [.data, .data, .data, .data, .sentinel, .sentinel, .pinned], laidTests := true, laidLooks := .later }
def EventSortsUptoCardSaid : Prop := Claim7.holds Tryz.pinned (.plain (OpenSpec.upto eventSortsSpec)) eventSortsUptoCard

/-- THE SECOND FORM's CARD OF 'caduceuslaw06.EventBack'. -/
def eventBackUptoCard : Claim7 := { stood := { row := eventBackUptoRow, standIns := [], harness := (true, "f8dc26c9bff7d71c9fc5868705e39ace651b3db79eae34c89c1ce671be494ce7"), looks := true }, kinds := [], alts := [], laidByText := true, laidKinds := [.data, .data, .data, .data, .sentinel, .sentinel, .pinned], laidTests := true, laidLooks := .later }
def EventBackUptoCardSaid : Prop := Claim7.holds Tryz.pinned (.plain (OpenSpec.upto eventBackSpec)) eventBackUptoCard

/-- THE SECOND FORM's CARD OF 'caduceuslaw06.EventInherits'. -/
def eventInheritsUptoCard : Claim7 := { stood := { row := eventInheritsUptoRow, standIns := [], harness := (true, "f8dc26c9bff7d71c9fc5868705e39ace651b3db79eae34c89c1ce671be494ce7"), looks := true }, kinds := [], alts := [], laidByText := true, laidKinds := [.data, .data, .data, .data, .sentinel, .sentinel, .pinned], laidTests := true, laidLooks := .later }
def EventInheritsUptoCardSaid : Prop := Claim7.holds Tryz.pinned (.plain (OpenSpec.upto eventInheritsSpec)) eventInheritsUptoCard
end Rows
end Go.Proofs.YtkdndabpaajkaaaGreatDoor
