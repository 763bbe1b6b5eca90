/-
  DERIVED. GIVEN WITH THE SEED: THE CARDS: each row of YtbbfggfiknbdmaaDoorRows.lean that lists a variable, with what it lists TIED to the program's text (the seventh form; the later family's looks); each row that meets fmt, with fmt's text TOLD by the authors' own Lean function (tested against real Go, not proved from fmt's source: count such statements apart). THE CARD IS WHAT COUNTS. Prove the row's statement (the work); the ties are given (YtbbfggfiknbdmaaDoorTie.lean); close each card by the builder's one call (the guide's Derived/Test/ToyasCard.lean, 'card_holds'). Laid BY PROGRAM, IN A SANDBOX (cutbox-door.mjs). By AI agents, Wed Nov 11 2026. No macro, syntax, notation, axiom, sorry.
-/
import Derived.Test.YtbbfggfiknbdmaaDoorRows
import GoSem.ClaimSeven
namespace Go.Proofs.YtbbfggfiknbdmaaDoor
namespace Rows

/-- THE TIED CARD OF 'caduceuslaw04.SchemaInherits'. -/
def schemaInheritsCard : Claim7 := { stood := { row := schemaInheritsRow, standIns := [], harness := (true, "8e5feb83f214948acb30d6663e1d159fbade3889e9712354b5b145f695224841"), looks := false }, kinds := [], alts := [], laidByText := true, laidKinds := [.data, .pinned], laidTests := true, laidLooks := .later }
def SchemaInheritsCardSaid : Prop := Claim7.holds Tryd.pinned (.plain (OpenSpec.ofChange schemaInheritsSpec)) schemaInheritsCard

/-- THE SECOND FORM's CARD OF 'caduceuslaw04.SchemaInherits'. -/
def schemaInheritsUptoCard : Claim7 := { stood := { row := schemaInheritsUptoRow, standIns := [], harness := (true, "8e5feb83f214948acb30d6663e1d159fbade3889e9712354b5b145f695224841"), looks := false }, kinds := [], alts := [], laidByText := true, laidKinds := [.data, .pinned], laidTests := true, laidLooks := .later }
def SchemaInheritsUptoCardSaid : Prop := Claim7.holds Tryd.pinned (.plain (OpenSpec.upto schemaInheritsSpec)) schemaInheritsUptoCard
end Rows
end Go.Proofs.YtbbfggfiknbdmaaDoor
