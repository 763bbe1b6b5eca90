/-
  DERIVED. GIVEN WITH THE SEED: THE CARDS: each row of YtlejenoibblhnaaDoorRows.lean that lists a variable, with what it lists TIED to the program's text (the seventh form; the later family's looks); each row that meets fmt, with fmt's text TOLD by the authors' own Lean function (tested against real Go, not proved from fmt's source: count such statements apart). THE CARD IS WHAT COUNTS. Prove the row's statement (the work); the ties are given (YtlejenoibblhnaaDoorTie.lean); close each card by the builder's one call (the guide's Derived/Test/ToyasCard.lean, 'card_holds'). Laid BY PROGRAM, IN A SANDBOX (cutbox-door.mjs). By AI agents, Wed Nov 11 2026. No macro, syntax, notation, axiom, sorry.
-/
import Derived.Test.YtlejenoibblhnaaDoorRows
import GoSem.ClaimSeven
namespace Go.Proofs.YtlejenoibblhnaaDoor
namespace Rows

/-- THE TIED CARD OF 'caduceuslaw03.ValueFrom'. -/
def valueFromCard : Claim7 := { stood := { row := valueFromRow, standIns := [], harness := (true, "a2226656982bcb657b87e7705740b4bbf67c0053f5c68e1d746850aa8420bba9"), looks := true }, kinds := [], alts := [], laidByText := true, laidKinds := [.data, .data, .data, .data, .sentinel, .sentinel, .pinned], laidTests := true, laidLooks := .later }
def ValueFromCardSaid : Prop := Claim7.holds Tryd.pinned (.plain (OpenSpec.ofChange valueFromSpec)) valueFromCard

/-- THE TIED CARD OF 'caduceuslaw03.ValueAny'. -/
def valueAnyCard : Claim7 := { stood := { row := valueAnyRow, standIns := [], harness := (true, "a2226656982bcb657b87e7705740b4bbf67c0053f5c68e1d746850aa8420bba9"), looks := true }, kinds := [], alts := [], laidByText := true, laidKinds := [.data, .data, .data, .data, .sentinel, .sentinel, .pinned], laidTests := true, laidLooks := .later }
def ValueAnyCardSaid : Prop := Claim7.holds Tryd.pinned (.plain (OpenSpec.ofChange valueAnySpec)) valueAnyCard

/-- THE SECOND FORM's CARD OF 'caduceuslaw03.ValueFrom'. -/
def valueFromUptoCard : Claim7 := { stood := { row := valueFromUptoRow, standIns := [], harness := (true, "a2226656982bcb657b87e7705740b4bbf67c0053f5c68e1d746850aa8420bba9"), looks := true }, kinds := [], alts := [], laidByText := true, laidKinds := [.data, .data, .data, .data, .sentinel, .sentinel, .pinned], laidTests := true, laidLooks := .later }
def ValueFromUptoCardSaid : Prop := Claim7.holds Tryd.pinned (.plain (OpenSpec.upto valueFromSpec)) valueFromUptoCard

/-- THE SECOND FORM's CARD OF 'caduceuslaw03.ValueAny'. -/
def valueAnyUptoCard : Claim7 := { stood := { row := valueAnyUptoRow, standIns := [], harness := (true, "a2226656982bcb657b87e7705740b4bbf67c0053f5c68e1d746850aa8420bba9"), looks := true }, kinds := [], alts := [], laidByText := true, laidKinds := [.data, .data, .data, .data, .sentinel, .sentinel, .pinned], laidTests := true, laidLooks := .later }
def ValueAnyUptoCardSaid : Prop := Claim7.holds Tryd.pinned (.plain (OpenSpec.upto valueAnySpec)) valueAnyUptoCard
end Rows
end Go.Proofs.YtlejenoibblhnaaDoor
