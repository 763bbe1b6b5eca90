/-
  DERIVED. GIVEN WITH THE SEED: THE CARDS: each row of YtpjjbaclphoilaaGreatDoorRows.lean that lists a variable, with what it lists TIED to the program's text (the seventh form; the later family's looks); each row that meets fmt, with fmt's text TOLD by the authors' own Lean function (tested against real Go, not proved from fmt's source: count such statements apart). THE CARD IS WHAT COUNTS. Prove the row's statement (the work); the ties are given (YtpjjbaclphoilaaGreatDoorTie.lean); close each card by the builder's one call (the guide's Derived/Test/ToyasCard.lean, 'card_holds'). Laid BY PROGRAM, IN A SANDBOX (cutbox-door.mjs). By AI agents, Wed Nov 11 2026. No macro, syntax, notation, axiom, sorry.
-/
import Derived.Test.YtpjjbaclphoilaaGreatDoorRows
import GoSem.ClaimSeven
namespace Go.Proofs.YtpjjbaclphoilaaGreatDoor
namespace Rows

/-- THE TIED CARD OF 'caduceuslaw05.ForestMakes'. -/
def forestMakesCard : Claim7 := { stood := { row := forestMakesRow, standIns := [], harness := (true, "91ec58f4588b100de6bc04587e9b4e5add4662203df35dfc8b3e16e5fe4a7bea"), looks := false }, kinds := [], alts := [], laidByText := true, laidKinds := [.data, .pinned], laidTests := true, laidLooks := .later }
def ForestMakesCardSaid : Prop := Claim7.holds Tryz.pinned (.plain (OpenSpec.ofChange forestMakesSpec)) forestMakesCard

/-- THE TIED CARD OF 'caduceuslaw05.ForestChains'. -/
def forestChainsCard : Claim7 := { stood := { row := forestChainsRow, standIns := [], harness := (true, "91ec58f4588b100de6bc04587e9b4e5add4662203df35dfc8b3e16e5fe4a7bea"), looks := false }, kinds := [], alts := [], laidByText := true, laidKinds := [.data, .pinned], laidTests := true, laidLooks := .later }
def ForestChainsCardSaid : Prop := Claim7.holds Tryz.pinned (.plain (OpenSpec.ofChange forestChainsSpec)) forestChainsCard

/-- THE TIED CARD OF 'caduceuslaw05.ForestJoins'. -/
def forestJoinsCard : Claim7 := { stood := { row := forestJoinsRow, standIns := [], harness := (true, "91ec58f4588b100de6bc04587e9b4e5add4662203df35dfc8b3e16e5fe4a7bea"), looks := false }, kinds := [], alts := [], laidByText := true, laidKinds := [.data, .pinned], laidTests := true, laidLooks := .later }
def ForestJoinsCardSaid : Prop := Claim7.holds Tryz.pinned (.plain (OpenSpec.ofChange forestJoinsSpec)) forestJoinsCard

/-- THE TIED CARD OF 'caduceuslaw05.ForestFits'. -/
def forestFitsCard : Claim7 := { stood := { row := forestFitsRow, standIns := [], harness := (true, "91ec58f4588b100de6bc04587e9b4e5add4662203df35dfc8b3e16e5fe4a7bea"), looks := false }, kinds := [], alts := [], laidByText := true, laidKinds := [.data, .pinned], laidTests := true, laidLooks := .later }
def ForestFitsCardSaid : Prop := Claim7.holds Tryz.pinned (.plain (OpenSpec.ofChange forestFitsSpec)) forestFitsCard

/-- THE TIED CARD OF 'caduceuslaw05.ForestBack'. -/
def forestBackCard : Claim7 := { stood := { row := forestBackRow, standIns := [], harness := (true, "91ec58f4588b100de6bc04587e9b4e5add4662203df35dfc8b3e16e5fe4a7bea"), looks := false }, kinds := [], alts := [], laidByText := true, laidKinds := [.data, .pinned], laidTests := true, laidLooks := .later }
def ForestBackCardSaid : Prop := Claim7.holds Tryz.pinned (.plain (OpenSpec.ofChange forestBackSpec)) forestBackCard

/-- THE SECOND FORM's CARD OF 'caduceuslaw05.ForestMakes'. -/
def forestMakesUptoCard : Claim7 := { stood := { row := forestMakesUptoRow, standIns := [], harness := (true, "91ec58f4588b100de6bc04587e9b4e5add4662203df35dfc8b3e16e5fe4a7bea"), looks := false }, kinds := [], alts := [], laidByText := true, laidKinds := [.data, .pinned], laidTests := true, laidLooks := .later }
def ForestMakesUptoCardSaid : Prop := Claim7.holds Tryz.pinned (.plain (OpenSpec.upto forestMakesSpec)) forestMakesUptoCard

/-- THE SECOND FORM's CARD OF 'caduceuslaw05.ForestChains'. -/
def forestChainsUptoCard : Claim7 := { stood := { row := forestChainsUptoRow, standIns := [], harness := (true, "91ec58f4588b100de6bc04587e9b4e5add4662203df35dfc8b3e16e5fe4a7bea"), looks := false }, kinds := [], alts := [], laidByText := true, laidKinds := [.data, .pinned], laidTests := true, laidLooks := .later }
def ForestChainsUptoCardSaid : Prop := Claim7.holds Tryz.pinned (.plain (OpenSpec.upto forestChainsSpec)) forestChainsUptoCard

/-- THE SECOND FORM's CARD OF 'caduceuslaw05.ForestJoins'. -/
def forestJoinsUptoCard : Claim7 := { stood := { row := forestJoinsUptoRow, standIns := [], harness := (true, "91ec58f4588b100de6bc04587e9b4e5add4662203df35dfc8b3e16e5fe4a7bea"), looks := false }, kinds := [], alts := [], laidByText := true, laidKinds := [.data, .pinned], laidTests := true, laidLooks := .later }
def ForestJoinsUptoCardSaid : Prop := Claim7.holds Tryz.pinned (.plain (OpenSpec.upto forestJoinsSpec)) forestJoinsUptoCard

/-- THE SECOND FORM's CARD OF 'caduceuslaw05.ForestFits'. -/
def forestFitsUptoCard : Claim7 := { stood := { row := forestFitsUptoRow, standIns := [], harness := (true, "91ec58f4588b100de6bc04587e9b4e5add4662203df35dfc8b3e16e5fe4a7bea"), looks := false }, kinds := [], alts := [], laidByText := true, laidKinds := [.data, .pinned], laidTests := true, laidLooks := .later }
def ForestFitsUptoCardSaid : Prop := Claim7.holds Tryz.pinned (.plain (OpenSpec.upto forestFitsSpec)) forestFitsUptoCard

/-- THE SECOND FORM's CARD OF 'caduceuslaw05.ForestBack'. -/
def forestBackUptoCard : Claim7 := { stood := { row := forestBackUptoRow, standIns := [], harness := (true, "91ec58f4588b100de6bc04587e9b4e5add4662203df35dfc8b3e16e5fe4a7bea"), looks := false }, kinds := [], alts := [], laidByText := true, laidKinds := [.data, .pinned], laidTests := true, laidLooks := .later }
def ForestBackUptoCardSaid : Prop := Claim7.holds Tryz.pinned (.plain (OpenSpec.upto forestBackSpec)) forestBackUptoCard
end Rows
end Go.Proofs.YtpjjbaclphoilaaGreatDoor
