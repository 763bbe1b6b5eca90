/-
  DERIVED. GIVEN WITH THE SEED: THE CARDS: each row of YtnbbajiabbmdmaaGreatDoorRows.lean that lists a variable, with what it lists TIED to the program's text (the seventh form; the later family's looks); each row that meets fmt, with fmt's text TOLD by the authors' own Lean function (tested against real Go, not proved from fmt's source: count such statements apart). THE CARD IS WHAT COUNTS. Prove the row's statement (the work); the ties are given (YtnbbajiabbmdmaaGreatDoorTie.lean); close each card by the builder's one call (the guide's Derived/Test/ToyasCard.lean, 'card_holds'). Laid BY PROGRAM, IN A SANDBOX (cutbox-door.mjs). By AI agents, Wed Nov 11 2026. No macro, syntax, notation, axiom, sorry.
-/
import Derived.Test.YtnbbajiabbmdmaaGreatDoorRows
import GoSem.ClaimSeven
namespace Go.Proofs.YtnbbajiabbmdmaaGreatDoor
namespace Rows

/-- THE TIED CARD OF 'caduceuslaw04.SchemaSorts'. -/
def schemaSortsCard : Claim7 := { stood := { row := schemaSortsRow, standIns := [], harness := (true, "779dc022d0d134d19856411d04428bda1a2968c9d999b5bf448771b12c640615"), looks := false }, kinds := [], alts := [], laidByText := true, laidKinds := [.data, .pinned], laidTests := true, laidLooks := .later }
def SchemaSortsCardSaid : Prop := Claim7.holds Tryz.pinned (.plain (OpenSpec.ofChange schemaSortsSpec)) schemaSortsCard

/-- THE TIED CARD OF 'caduceuslaw04.SchemaFits'. -/
def schemaFitsCard : Claim7 := { stood := { row := schemaFitsRow, standIns := [], harness := (true, "779dc022d0d134d19856411d04428bda1a2968c9d999b5bf448771b12c640615"), looks := false }, kinds := [], alts := [], laidByText := true, laidKinds := [.data, .pinned], laidTests := true, laidLooks := .later }
def SchemaFitsCardSaid : Prop := Claim7.holds Tryz.pinned (.plain (OpenSpec.ofChange schemaFitsSpec)) schemaFitsCard

/-- THE TIED CARD OF 'caduceuslaw04.SchemaLines'. -/
def schemaLinesCard : Claim7 := { stood := { row := schemaLinesRow, standIns := [], harness := (true, "779dc022d0d134d19856411d04428bda1a2968c9d999b5bf448771b12c640615"), looks := false }, kinds := [], alts := [], laidByText := true, laidKinds := [.data, .pinned], laidTests := true, laidLooks := .later }
def SchemaLinesCardSaid : Prop := Claim7.holds Tryz.pinned (.plain (OpenSpec.ofChange schemaLinesSpec)) schemaLinesCard

/-- THE TIED CARD OF 'caduceuslaw04.SchemaBack'. -/
def schemaBackCard : Claim7 := { stood := { row := schemaBackRow, standIns := [], harness := (true, "779dc022d0d134d19856411d04428bda1a2968c9d999b5bf448771b12c640615"), looks := false }, kinds := [], alts := [], laidByText := true, laidKinds := [.data, .pinned], laidTests := true, laidLooks := .later }
def SchemaBackCardSaid : Prop := Claim7.holds Tryz.pinned (.plain (OpenSpec.ofChange schemaBackSpec)) schemaBackCard

/-- THE TIED CARD OF 'caduceuslaw04.SchemaOnce'. -/
def schemaOnceCard : Claim7 := { stood := { row := schemaOnceRow, standIns := [], harness := (true, "779dc022d0d134d19856411d04428bda1a2968c9d999b5bf448771b12c640615"), looks := false }, kinds := [], alts := [], laidByText := true, laidKinds := [.data, .pinned], laidTests := true, laidLooks := .later }
def SchemaOnceCardSaid : Prop := Claim7.holds Tryz.pinned (.plain (OpenSpec.ofChange schemaOnceSpec)) schemaOnceCard

/-- THE SECOND FORM's CARD OF 'caduceuslaw04.SchemaSorts'. -/
def schemaSortsUptoCard : Claim7 := { stood := { row := schemaSortsUptoRow, standIns := [], harness := (true, "779dc022d0d134d19856411d04428bda1a2968c9d999b5bf448771b12c640615"), looks := false }, kinds := [], alts := [], laidByText := true, laidKinds := [.data, .pinned], laidTests := true, laidLooks := .later }
def SchemaSortsUptoCardSaid : Prop := Claim7.holds Tryz.pinned (.plain (OpenSpec.upto schemaSortsSpec)) schemaSortsUptoCard

/-- THE SECOND FORM's CARD OF 'caduceuslaw04.SchemaFits'. -/
def schemaFitsUptoCard : Claim7 := { stood := { row := schemaFitsUptoRow, standIns := [], harness := (true, "779dc022d0d134d19856411d04428bda1a2968c9d999b5bf448771b12c640615"), looks := false }, kinds := [], alts := [], laidByText := true, laidKinds := [.data, .pinned], laidTests := true, laidLooks := .later }
def SchemaFitsUptoCardSaid : Prop := Claim7.holds Tryz.pinned (.plain (OpenSpec.upto schemaFitsSpec)) schemaFitsUptoCard

/-- THE SECOND FORM's CARD OF 'caduceuslaw04.SchemaLines'. -/
def schemaLinesUptoCard : Claim7 := { stood := { row := schemaLinesUptoRow, standIns := [], harness := (true, "779dc022d0d134d19856411d04428bda1a2968c9d999b5bf448771b12c640615"), looks := false }, kinds := [], alts := [], laidByText := true, laidKinds := [.data, .pinned], laidTests := true, laidLooks := .later }
def SchemaLinesUptoCardSaid : Prop := Claim7.holds Tryz.pinned (.plain (OpenSpec.upto schemaLinesSpec)) schemaLinesUptoCard

/-- THE SECOND FORM's CARD OF 'caduceuslaw04.SchemaBack'. -/
def schemaBackUptoCard : Claim7 := { stood := { row := schemaBackUptoRow, standIns := [], harness := (true, "779dc022d0d134d19856411d04428bda1a2968c9d999b5bf448771b12c640615"), looks := false }, kinds := [], alts := [], laidByText := true, laidKinds := [.data, .pinned], laidTests := true, laidLooks := .later }
def SchemaBackUptoCardSaid : Prop := Claim7.holds Tryz.pinned (.plain (OpenSpec.upto schemaBackSpec)) schemaBackUptoCard

/-- THE SECOND FORM's CARD OF 'caduceuslaw04.SchemaOnce'. -/
def schemaOnceUptoCard : Claim7 := { stood := { row := schemaOnceUptoRow, standIns := [], harness := (true, "779dc022d0d134d19856411d04428bda1a2968c9d999b5bf448771b12c640615"), looks := false }, kinds := [], alts := [], laidByText := true, laidKinds := [.data, .pinned], laidTests := true, laidLooks := .later }
def SchemaOnceUptoCardSaid : Prop := Claim7.holds Tryz.pinned (.plain (OpenSpec.upto schemaOnceSpec)) schemaOnceUptoCard
end Rows
end Go.Proofs.YtnbbajiabbmdmaaGreatDoor
