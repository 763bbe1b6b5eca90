/-
  DERIVED. GIVEN WITH THE SEED: THE CARDS: each row of YtoajlmmkkcelgaaDoorRows.lean that lists a variable, with what it lists TIED to the program's text (the seventh form; the later family's looks); each row that meets fmt, with fmt's text TOLD by the authors' own Lean function (tested against real Go, not proved from fmt's source: count such statements apart). THE CARD IS WHAT COUNTS. Prove the row's statement (the work); the ties are given (YtoajlmmkkcelgaaDoorTie.lean); close each card by the builder's one call (the guide's Derived/Test/ToyasCard.lean, 'card_holds'). Laid BY PROGRAM, IN A SANDBOX (cutbox-door.mjs). By AI agents, Wed Nov 11 2026. No macro, syntax, notation, axiom, sorry.
-/
import Derived.Test.YtoajlmmkkcelgaaDoorRows
import GoSem.ClaimSeven
namespace Go.Proofs.YtoajlmmkkcelgaaDoor
namespace Rows

/-- THE TIED CARD OF 'caduceuslaw03.ValueScans'. -/
def valueScansCard : Claim7 := { stood := { row := valueScansRow, standIns := [], harness := (true, "9277109310bb5302cfd1dfbc8300f8118bc721b6132de964abdfdbf91d0810c5"), looks := true }, kinds := [], alts := [], laidByText := true, laidKinds := [.data, .data, .data, .data, .sentinel, .sentinel, .pinned], laidTests := true, laidLooks := .later }
def ValueScansCardSaid : Prop := Claim7.holds Tryd.pinned (.plain (OpenSpec.ofChange valueScansSpec)) valueScansCard

/-- THE TIED CARD OF 'caduceuslaw03.ValueFrom'. -/
def valueFromCard : Claim7 := { stood := { row := valueFromRow, standIns := [], harness := (true, "9277109310bb5302cfd1dfbc8300f8118bc721b6132de964abdfdbf91d0810c5"), looks := true }, kinds := [], alts := [], laidByText := true, laidKinds := [.data, .data, .data, .data, .sentinel, .sentinel, .pinned], laidTests := true, laidLooks := .later }
def ValueFromCardSaid : Prop := Claim7.holds Tryd.pinned (.plain (OpenSpec.ofChange valueFromSpec)) valueFromCard

/-- THE TIED CARD OF 'caduceuslaw07.LexBlanks'. -/
def lexBlanksCard : Claim7 := { stood := { row := lexBlanksRow, standIns := [], harness := (true, "9277109310bb5302cfd1dfbc8300f8118bc721b6132de964abdfdbf91d0810c5"), looks := true }, kinds := [], alts := [], laidByText := true, laidKinds := [.data, .data, .data, .data, .sentinel, .sentinel, .pinned], laidTests := true, laidLooks := .later }
def LexBlanksCardSaid : Prop := Claim7.holds Tryd.pinned (.plain (OpenSpec.ofChange lexBlanksSpec)) lexBlanksCard

/-- THE TIED CARD OF 'caduceuslaw07.LexMany'. -/
def lexManyCard : Claim7 := { stood := { row := lexManyRow, standIns := [], harness := (true, "9277109310bb5302cfd1dfbc8300f8118bc721b6132de964abdfdbf91d0810c5"), looks := true }, kinds := [], alts := [], laidByText := true, laidKinds := [.data, .data, .data, .data, .sentinel, .sentinel, .pinned], laidTests := true, laidLooks := .later }
def LexManyCardSaid : Prop := Claim7.holds Tryd.pinned (.plain (OpenSpec.ofChange lexManySpec)) lexManyCard

/-- THE TIED CARD OF 'caduceuslaw03.ValueChecks'. -/
def valueChecksCard : Claim7 := { stood := { row := valueChecksRow, standIns := [], harness := (true, "9277109310bb5302cfd1dfbc8300f8118bc721b6132de964abdfdbf91d0810c5"), looks := true }, kinds := [], alts := [], laidByText := true, laidKinds := [.data, .data, .data, .data, .sentinel, .sentinel, .pinned], laidTests := true, laidLooks := .later }
def ValueChecksCardSaid : Prop := Claim7.holds Tryd.pinned (.plain (OpenSpec.ofChange valueChecksSpec)) valueChecksCard

/-- THE TIED CARD OF 'caduceuslaw03.ValueOrder'. -/
def valueOrderCard : Claim7 := { stood := { row := valueOrderRow, standIns := [], harness := (true, "9277109310bb5302cfd1dfbc8300f8118bc721b6132de964abdfdbf91d0810c5"), looks := true }, kinds := [], alts := [], laidByText := true, laidKinds := [.data, .data, .data, .data, .sentinel, .sentinel, .pinned], laidTests := true, laidLooks := .later }
def ValueOrderCardSaid : Prop := Claim7.holds Tryd.pinned (.plain (OpenSpec.ofChange valueOrderSpec)) valueOrderCard

/-- THE TIED CARD OF 'caduceuslaw03.ValueAny'. -/
def valueAnyCard : Claim7 := { stood := { row := valueAnyRow, standIns := [], harness := (true, "9277109310bb5302cfd1dfbc8300f8118bc721b6132de964abdfdbf91d0810c5"), looks := true }, kinds := [], alts := [], laidByText := true, laidKinds := [.data, .data, .data, .data, .sentinel, .sentinel, .pinned], laidTests := true, laidLooks := .later }
def ValueAnyCardSaid : Prop := Claim7.holds Tryd.pinned (.plain (OpenSpec.ofChange valueAnySpec)) valueAnyCard

/-- THE TIED CARD OF 'caduceuslaw07.LexPlaces'. -/
def lexPlacesCard : Claim7 := { stood := { row := lexPlacesRow, standIns := [], harness := (true, "9277109310bb5302cfd1dfbc8300f8118bc721b6132de964abdfdbf91d0810c5"), looks := true }, kinds := [], alts := [], laidByText := true, laidKinds := [.data, .data, .data, .data, .sentinel, .sentinel, .pinned], laidTests := true, laidLooks := .later }
def LexPlacesCardSaid : Prop := Claim7.holds Tryd.pinned (.plain (OpenSpec.ofChange lexPlacesSpec)) lexPlacesCard

/-- THE TIED CARD OF 'caduceuslaw03.ValueReads'. -/
def valueReadsCard : Claim7 := { stood := { row := valueReadsRow, standIns := [], harness := (true, "9277109310bb5302cfd1dfbc8300f8118bc721b6132de964abdfdbf91d0810c5"), looks := true }, kinds := [], alts := [], laidByText := true, laidKinds := [.data, .data, .data, .data, .sentinel, .sentinel, .pinned], laidTests := true, laidLooks := .later }
def ValueReadsCardSaid : Prop := Claim7.holds Tryd.pinned (.plain (OpenSpec.ofChange valueReadsSpec)) valueReadsCard

/-- THE TIED CARD OF 'caduceuslaw07.LexBack'. -/
def lexBackCard : Claim7 := { stood := { row := lexBackRow, standIns := [], harness := (true, "9277109310bb5302cfd1dfbc8300f8118bc721b6132de964abdfdbf91d0810c5"), looks := true }, kinds := [], alts := [], laidByText := true, laidKinds := [.data, .data, .data, .data, .sentinel, .sentinel, .pinned], laidTests := true, laidLooks := .later }
def LexBackCardSaid : Prop := Claim7.holds Tryd.pinned (.plain (OpenSpec.ofChange lexBackSpec)) lexBackCard

/-- THE TIED CARD OF 'caduceuslaw03.ValueBack'. -/
def valueBackCard : Claim7 := { stood := { row := valueBackRow, standIns := [], harness := (true, "9277109310bb5302cfd1dfbc8300f8118bc721b6132de964abdfdbf91d0810c5"), looks := true }, kinds := [], alts := [], laidByText := true, laidKinds := [.data, .data, .data, .data, .sentinel, .sentinel, .pinned], laidTests := true, laidLooks := .later }
def ValueBackCardSaid : Prop := Claim7.holds Tryd.pinned (.plain (OpenSpec.ofChange valueBackSpec)) valueBackCard

/-- THE TIED CARD OF 'caduceuslaw03.ValueOnce'. -/
def valueOnceCard : Claim7 := { stood := { row := valueOnceRow, standIns := [], harness := (true, "9277109310bb5302cfd1dfbc8300f8118bc721b6132de964abdfdbf91d0810c5"), looks := true }, kinds := [], alts := [], laidByText := true, laidKinds := [.data, .data, .data, .data, .sentinel, .sentinel, .pinned], laidTests := true, laidLooks := .later }
def ValueOnceCardSaid : Prop := Claim7.holds Tryd.pinned (.plain (OpenSpec.ofChange valueOnceSpec)) valueOnceCard

/-- THE SECOND FORM's CARD OF 'caduceuslaw03.ValueScans'. -/
def valueScansUptoCard : Claim7 := { stood := { row := valueScansUptoRow, standIns := [], harness := (true, "9277109310bb5302cfd1dfbc8300f8118bc721b6132de964abdfdbf91d0810c5"), looks := true }, kinds := [], alts := [], laidByText := true, laidKinds := [.data, .data, .data, .data, .sentinel, .sentinel, .pinned], laidTests := true, laidLooks := .later }
def ValueScansUptoCardSaid : Prop := Claim7.holds Tryd.pinned (.plain (OpenSpec.upto valueScansSpec)) valueScansUptoCard

/-- THE SECOND FORM's CARD OF 'caduceuslaw03.ValueFrom'. -/
def valueFromUptoCard : Claim7 := { stood := { row := valueFromUptoRow, standIns := [], harness := (true, "9277109310bb5302cfd1dfbc8300f8118bc721b6132de964abdfdbf91d0810c5"), looks := true }, kinds := [], alts := [], laidByText := true, laidKinds := [.data, .data, .data, .data, .sentinel, .sentinel, .pinned], laidTests := true, laidLooks := .later }
def ValueFromUptoCardSaid : Prop := Claim7.holds Tryd.pinned (.plain (OpenSpec.upto valueFromSpec)) valueFromUptoCard

/-- THE SECOND FORM's CARD OF 'caduceuslaw07.LexBlanks'. -/
def lexBlanksUptoCard : Claim7 := { stood := { row := lexBlanksUptoRow, standIns := [], harness := (true, "9277109310bb5302cfd1dfbc8300f8118bc721b6132de964abdfdbf91d0810c5"), looks := true }, kinds := [], alts := [], laidByText := true, laidKinds := [.data, .data, .data, .data, .sentinel, .sentinel, .pinned], laidTests := true, laidLooks := .later }
def LexBlanksUptoCardSaid : Prop := Claim7.holds Tryd.pinned (.plain (OpenSpec.upto lexBlanksSpec)) lexBlanksUptoCard

/-- THE SECOND FORM's CARD OF 'caduceuslaw07.LexMany'. -/
def lexManyUptoCard : Claim7 := { stood := { row := lexManyUptoRow, standIns := [], harness := (true, "9277109310bb5302cfd1dfbc8300f8118bc721b6132de964abdfdbf91d0810c5"), looks := true }, kinds := [], alts := [], laidByText := true, laidKinds := [.data, .data, .data, .data, .sentinel, .sentinel, .pinned], laidTests := true, laidLooks := .later }
def LexManyUptoCardSaid : Prop := Claim7.holds Tryd.pinned (.plain (OpenSpec.upto lexManySpec)) lexManyUptoCard

/-- THE SECOND FORM's CARD OF 'caduceuslaw03.ValueChecks'. -/
def valueChecksUptoCard : Claim7 := { stood := { row := valueChecksUptoRow, standIns := [], harness := (true, "9277109310bb5302cfd1dfbc8300f8118bc721b6132de964abdfdbf91d0810c5"), looks := true }, kinds := [], alts := [], laidByText := true, laidKinds := [.data, .data, .data, .data, .sentinel, .sentinel, .pinned], laidTests := true, laidLooks := .later }
def ValueChecksUptoCardSaid : Prop := Claim7.holds Tryd.pinned (.plain (OpenSpec.upto valueChecksSpec)) valueChecksUptoCard

/-- THE SECOND FORM's CARD OF 'caduceuslaw03.ValueOrder'. -/
def valueOrderUptoCard : Claim7 := { stood := { row := valueOrderUptoRow, standIns := [], harness := (true, "9277109310bb5302cfd1dfbc8300f8118bc721b6132de964abdfdbf91d0810c5"), looks := true }, kinds := [], alts := [], laidByText := true, laidKinds := [.data, .data, .data, .data, .sentinel, .sentinel, .pinned], laidTests := true, laidLooks := .later }
def ValueOrderUptoCardSaid : Prop := Claim7.holds Tryd.pinned (.plain (OpenSpec.upto valueOrderSpec)) valueOrderUptoCard

/-- THE SECOND FORM's CARD OF 'caduceuslaw03.ValueAny'. -/
def valueAnyUptoCard : Claim7 := { stood := { row := valueAnyUptoRow, standIns := [], harness := (true, "9277109310bb5302cfd1dfbc8300f8118bc721b6132de964abdfdbf91d0810c5"), looks := true }, kinds := [], alts := [], laidByText := true, laidKinds := [.data, .data, .data, .data, .sentinel, .sentinel, .pinned], laidTests := true, laidLooks := .later }
def ValueAnyUptoCardSaid : Prop := Claim7.holds Tryd.pinned (.plain (OpenSpec.upto valueAnySpec)) valueAnyUptoCard

/-- THE SECOND FORM's CARD OF 'caduceuslaw07.LexPlaces'. -/
def lexPlacesUptoCard : Claim7 := { stood := { row := lexPlacesUptoRow, standIns := [], harness := (true, "9277109310bb5302cfd1dfbc8300f8118bc721b6132de964abdfdbf91d0810c5"), looks := true }, kinds := [], alts := [], laidByText := true, laidKinds := [.data, .data, .data, .data, .sentinel, .sentinel, .pinned], laidTests := true, laidLooks := .later }
def LexPlacesUptoCardSaid : Prop := Claim7.holds Tryd.pinned (.plain (OpenSpec.upto lexPlacesSpec)) lexPlacesUptoCard

/-- THE SECOND FORM's CARD OF 'caduceuslaw03.ValueReads'. -/
def valueReadsUptoCard : Claim7 := { stood := { row := valueReadsUptoRow, standIns := [], harness := (true, "9277109310bb5302cfd1dfbc8300f8118bc721b6132de964abdfdbf91d0810c5"), looks := true }, kinds := [], alts := [], laidByText := true, laidKinds := [.data, .data, .data, .data, .sentinel, .sentinel, .pinned], laidTests := true, laidLooks := .later }
def ValueReadsUptoCardSaid : Prop := Claim7.holds Tryd.pinned (.plain (OpenSpec.upto valueReadsSpec)) valueReadsUptoCard

/-- THE SECOND FORM's CARD OF 'caduceuslaw07.LexBack'. -/
def lexBackUptoCard : Claim7 := { stood := { row := lexBackUptoRow, standIns := [], harness := (true, "9277109310bb5302cfd1dfbc8300f8118bc721b6132de964abdfdbf91d0810c5"), looks := true }, kinds := [], alts := [], laidByText := true, laidKinds := [.data, .data, .data, .data, .sentinel, .sentinel, .pinned], laidTests := true, laidLooks := .later }
def LexBackUptoCardSaid : Prop := Claim7.holds Tryd.pinned (.plain (OpenSpec.upto lexBackSpec)) lexBackUptoCard

/-- THE SECOND FORM's CARD OF 'caduceuslaw03.ValueBack'. -/
def valueBackUptoCard : Claim7 := { stood := { row := valueBackUptoRow, standIns := [], harness := (true, "9277109310bb5302cfd1dfbc8300f8118bc721b6132de964abdfdbf91d0810c5"), looks := true }, kinds := [], alts := [], laidByText := true, laidKinds := [.data, .data, .data, .data, .sentinel, .sentinel, .pinned], laidTests := true, laidLooks := .later }
def ValueBackUptoCardSaid : Prop := Claim7.holds Tryd.pinned (.plain (OpenSpec.upto valueBackSpec)) valueBackUptoCard

/-- THE SECOND FORM's CARD OF 'caduceuslaw03.ValueOnce'. -/
def valueOnceUptoCard : Claim7 := { stood := { row := valueOnceUptoRow, standIns := [], harness := (true, "9277109310bb5302cfd1dfbc8300f8118bc721b6132de964abdfdbf91d0810c5"), looks := true }, kinds := [], alts := [], laidByText := true, laidKinds := [.data, .data, .data, .data, .sentinel, .sentinel, .pinned], laidTests := true, laidLooks := .later }
def ValueOnceUptoCardSaid : Prop := Claim7.holds Tryd.pinned (.plain (OpenSpec.upto valueOnceSpec)) valueOnceUptoCard
end Rows
end Go.Proofs.YtoajlmmkkcelgaaDoor
