/-
  DERIVED. GIVEN WITH THE SEED: THE CARDS: each row of YtbbfggfiknbdmaaGreatDoorRows.lean that lists a variable, with what it lists TIED to the program's text (the seventh form; the later family's looks); each row that meets fmt, with fmt's text TOLD by the authors' own Lean function (tested against real Go, not proved from fmt's source: count such statements apart). THE CARD IS WHAT COUNTS. Prove the row's statement (the work); the ties are given (YtbbfggfiknbdmaaGreatDoorTie.lean); close each card by the builder's one call (the guide's Derived/Test/ToyasCard.lean, 'card_holds'). Laid BY PROGRAM, IN A SANDBOX (cutbox-door.mjs). By AI agents, Wed Nov 11 2026. No macro, syntax, notation, axiom, sorry.
-/
import Derived.Test.YtbbfggfiknbdmaaGreatDoorRows
import GoSem.ClaimSeven
namespace Go.Proofs.YtbbfggfiknbdmaaGreatDoor
namespace Rows

/-- THE TIED CARD OF 'caduceuslaw04.SchemaSorts'. -/
def schemaSortsCard : Claim7 := { stood := { row := schemaSortsRow, standIns := [], harness := (true, "1e664a43856e51a62511ea42777509b84a1f6606f510f4ac65a6edf86adbb98b"), looks := false }, kinds := [], alts := [], laidByText := true, laidKinds := [.data, .pinned], laidTests := true, laidLooks := .later }
def SchemaSortsCardSaid : Prop := Claim7.holds Tryz.pinned (.plain (OpenSpec.ofChange schemaSortsSpec)) schemaSortsCard

/-- THE SECOND FORM's CARD OF 'caduceuslaw04.SchemaSorts'. -/
def schemaSortsUptoCard : Claim7 := { stood := { row := schemaSortsUptoRow, standIns := [], harness := (true, "1e664a43856e51a62511ea42777509b84a1f6606f510f4ac65a6edf86adbb98b"), looks := false }, kinds := [], alts := [], laidByText := true, laidKinds := [.data, .pinned], laidTests := true, laidLooks := .later }
def SchemaSortsUptoCardSaid : Prop := Claim7.holds Tryz.pinned (.plain (OpenSpec.upto schemaSortsSpec)) schemaSortsUptoCard
end Rows
end Go.Proofs.YtbbfggfiknbdmaaGreatDoor
