/-
  NARROWER THAN 'FOR EVERY INPUT', by the rows' own cells (each row's printed sentence says how): ForestMakes: laid · ForestChains: laid · ForestJoins: laid · ForestFits: laid · ForestBack: laid.
  DERIVED. THE GIVEN ROWS OF THIS SEAT. 5 by the template 'for every input the law returns true; each argument reads behind the call as it read before'; 0 by the template 'total and deterministic' (their statements: YtpjjbaclphoilaaGreatDoorTotals.lean).
  GIVEN WITH THE SEED: the statements are not yours to turn. If you find one false, say at which input.
  Laid BY PROGRAM, IN A SANDBOX (cutbox-rows.mjs): the forced cells as the released guide's own fill.sh prints them over the translation b55ffe10d43364f7… (all of the seat's roots in one cut). By AI agents, Wed Nov 11 2026. No macro, syntax, notation, axiom, sorry.
-/
import Derived.Test.YtpjjbaclphoilaaGreatDoorChecked
import GoSem.PinnedTables
import GoSem.Claim
import GoSem.ClaimJoined
import GoSem.ClaimMapViews
import Derived.JoinedTies
import Derived.KernelRfl
namespace Go.Proofs.YtpjjbaclphoilaaGreatDoor
/- THE CELL 'sum', in the pinned program and in every row, IS THE sha256 OF THE DUMP (.gsa) THAT YtpjjbaclphoilaaGreatDoorProg.lean LOADS. Nothing in Lean hashes anything: it is a label: what it is worth is what the hold of that sum in a sandbox is worth. -/
noncomputable def Tryz.pinned : Pinned := { name := "ytpjjbaclphoilaagreatdoor", sum := "b55ffe10d43364f7220de8d23c6dd1536328a3ba331b90d0a6ae1670f76d0eb0", checked := Tryz.checked }
namespace Rows
def none {H : Type} : Left H := { results := [], args := [] }

/- WHAT THE LISTED PACKAGE-LEVEL VARIABLES READ AS WHEN THE CALL BEGINS. Each datum BY PROGRAM (the guide's laid-datum.mjs) off the statement by which the dump's own 'gosem.cut.vars' lays the variable. In a bare row this is a premise. The card (YtpjjbaclphoilaaGreatDoorCards.lean) ties it to the program's text. -/
def laid_unicode_utf8_acceptRanges {H : Type} : DataW H := .agg [.agg [.lit (.int .u8 128), .lit (.int .u8 191)], .agg [.lit (.int .u8 160), .lit (.int .u8 191)], .agg [.lit (.int .u8 128), .lit (.int .u8 159)], .agg [.lit (.int .u8 144), .lit (.int .u8 191)], .agg [.lit (.int .u8 128), .lit (.int .u8 143)], .agg [.lit (.int .u8 0), .lit (.int .u8 0)], .agg [.lit (.int .u8 0), .lit (.int .u8 0)], .agg [.lit (.int .u8 0), .lit (.int .u8 0)], .agg [.lit (.int .u8 0), .lit (.int .u8 0)], .agg [.lit (.int .u8 0), .lit (.int .u8 0)], .agg [.lit (.int .u8 0), .lit (.int .u8 0)], .agg [.lit (.int .u8 0), .lit (.int .u8 0)], .agg [.lit (.int .u8 0), .lit (.int .u8 0)], .agg [.lit (.int .u8 0), .lit (.int .u8 0)], .agg [.lit (.int .u8 0), .lit (.int .u8 0)], .agg [.lit (.int .u8 0), .lit (.int .u8 0)]]
/-- One of Go's own tables, pinned by name: the form's constant. -/
def laid_unicode_utf8_first : DataW Unit := Go.Pinned.utf8First

/-- 'caduceuslaw05.ForestMakes': WHATEVER THE INPUT: true; the input reads as it did. -/
def forestMakesSpec : ChangeSpec := { name := "forestMakes", fn := fun _ => fun
  | [d1, d2, d3] => { results := [.lit (.bool true)], args := [d1, d2, d3] }
  | _ => none }
def forestMakesRow : OpenClaim := { program := "ytpjjbaclphoilaagreatdoor", sum := "b55ffe10d43364f7220de8d23c6dd1536328a3ba331b90d0a6ae1670f76d0eb0", func := "caduceus/caduceuslaw05.ForestMakes", spec := "forestMakes", inPlace := ["internal/bytealg.CountString", "internal/bytealg.IndexByteString", "internal/bytealg.IndexString", "slices.overlaps[caduceus/api.Type]"], unfollowed := true, recurses := true, named := ["unicode/utf8.first", "unicode/utf8.acceptRanges", "internal/bytealg.MaxLen"], apart := false, laid := [("unicode/utf8.acceptRanges", laid_unicode_utf8_acceptRanges), ("unicode/utf8.first", laid_unicode_utf8_first)] }
def ForestMakesSaid : Prop := forestMakesRow.holds Tryz.pinned (OpenSpec.ofChange forestMakesSpec)

/-- ITS FALSE NEIGHBOUR: 'it returns false'. Refute it at one input. -/
def forestMakesWrong : ChangeSpec := { name := "forestMakes", fn := fun _ => fun
  | [d1, d2, d3] => { results := [.lit (.bool false)], args := [d1, d2, d3] }
  | _ => none }
def ForestMakesWrongFalsely : Prop := forestMakesRow.holds Tryz.pinned (OpenSpec.ofChange forestMakesWrong)

/-- 'caduceuslaw05.ForestChains': WHATEVER THE INPUT: true; the input reads as it did. -/
def forestChainsSpec : ChangeSpec := { name := "forestChains", fn := fun _ => fun
  | [d1, d2] => { results := [.lit (.bool true)], args := [d1, d2] }
  | _ => none }
def forestChainsRow : OpenClaim := { program := "ytpjjbaclphoilaagreatdoor", sum := "b55ffe10d43364f7220de8d23c6dd1536328a3ba331b90d0a6ae1670f76d0eb0", func := "caduceus/caduceuslaw05.ForestChains", spec := "forestChains", inPlace := ["internal/bytealg.CountString", "internal/bytealg.IndexByteString", "internal/bytealg.IndexString", "slices.overlaps[caduceus/api.Type]"], unfollowed := true, recurses := true, named := ["unicode/utf8.first", "unicode/utf8.acceptRanges", "internal/bytealg.MaxLen"], apart := false, laid := [("unicode/utf8.acceptRanges", laid_unicode_utf8_acceptRanges), ("unicode/utf8.first", laid_unicode_utf8_first)] }
def ForestChainsSaid : Prop := forestChainsRow.holds Tryz.pinned (OpenSpec.ofChange forestChainsSpec)

/-- ITS FALSE NEIGHBOUR: 'it returns false'. Refute it at one input. -/
def forestChainsWrong : ChangeSpec := { name := "forestChains", fn := fun _ => fun
  | [d1, d2] => { results := [.lit (.bool false)], args := [d1, d2] }
  | _ => none }
def ForestChainsWrongFalsely : Prop := forestChainsRow.holds Tryz.pinned (OpenSpec.ofChange forestChainsWrong)

/-- 'caduceuslaw05.ForestJoins': WHATEVER THE INPUT: true; the input reads as it did. -/
def forestJoinsSpec : ChangeSpec := { name := "forestJoins", fn := fun _ => fun
  | [d1, d2] => { results := [.lit (.bool true)], args := [d1, d2] }
  | _ => none }
def forestJoinsRow : OpenClaim := { program := "ytpjjbaclphoilaagreatdoor", sum := "b55ffe10d43364f7220de8d23c6dd1536328a3ba331b90d0a6ae1670f76d0eb0", func := "caduceus/caduceuslaw05.ForestJoins", spec := "forestJoins", inPlace := ["internal/bytealg.CountString", "internal/bytealg.IndexByteString", "internal/bytealg.IndexString", "slices.overlaps[caduceus/api.Type]"], unfollowed := true, recurses := true, named := ["unicode/utf8.first", "unicode/utf8.acceptRanges", "internal/bytealg.MaxLen"], apart := false, laid := [("unicode/utf8.acceptRanges", laid_unicode_utf8_acceptRanges), ("unicode/utf8.first", laid_unicode_utf8_first)] }
def ForestJoinsSaid : Prop := forestJoinsRow.holds Tryz.pinned (OpenSpec.ofChange forestJoinsSpec)

/-- ITS FALSE NEIGHBOUR: 'it returns false'. Refute it at one input. -/
def forestJoinsWrong : ChangeSpec := { name := "forestJoins", fn := fun _ => fun
  | [d1, d2] => { results := [.lit (.bool false)], args := [d1, d2] }
  | _ => none }
def ForestJoinsWrongFalsely : Prop := forestJoinsRow.holds Tryz.pinned (OpenSpec.ofChange forestJoinsWrong)

/-- 'caduceuslaw05.ForestFits': WHATEVER THE INPUT: true; the input reads as it did. -/
def forestFitsSpec : ChangeSpec := { name := "forestFits", fn := fun _ => fun
  | [d1, d2, d3] => { results := [.lit (.bool true)], args := [d1, d2, d3] }
  | _ => none }
def forestFitsRow : OpenClaim := { program := "ytpjjbaclphoilaagreatdoor", sum := "b55ffe10d43364f7220de8d23c6dd1536328a3ba331b90d0a6ae1670f76d0eb0", func := "caduceus/caduceuslaw05.ForestFits", spec := "forestFits", inPlace := ["internal/bytealg.CountString", "internal/bytealg.IndexByteString", "internal/bytealg.IndexString", "slices.overlaps[caduceus/api.Type]"], unfollowed := true, recurses := true, named := ["unicode/utf8.first", "unicode/utf8.acceptRanges", "internal/bytealg.MaxLen"], apart := false, laid := [("unicode/utf8.acceptRanges", laid_unicode_utf8_acceptRanges), ("unicode/utf8.first", laid_unicode_utf8_first)] }
def ForestFitsSaid : Prop := forestFitsRow.holds Tryz.pinned (OpenSpec.ofChange forestFitsSpec)

/-- ITS FALSE NEIGHBOUR: 'it returns false'. Refute it at one input. -/
def forestFitsWrong : ChangeSpec := { name := "forestFits", fn := fun _ => fun
  | [d1, d2, d3] => { results := [.lit (.bool false)], args := [d1, d2, d3] }
  | _ => none }
def ForestFitsWrongFalsely : Prop := forestFitsRow.holds Tryz.pinned (OpenSpec.ofChange forestFitsWrong)

/-- 'caduceuslaw05.ForestBack': WHATEVER THE INPUT: true; the input reads as it did. -/
def forestBackSpec : ChangeSpec := { name := "forestBack", fn := fun _ => fun
  | [d1, d2] => { results := [.lit (.bool true)], args := [d1, d2] }
  | _ => none }
def forestBackRow : OpenClaim := { program := "ytpjjbaclphoilaagreatdoor", sum := "b55ffe10d43364f7220de8d23c6dd1536328a3ba331b90d0a6ae1670f76d0eb0", func := "caduceus/caduceuslaw05.ForestBack", spec := "forestBack", inPlace := ["internal/bytealg.CountString", "internal/bytealg.IndexByteString", "internal/bytealg.IndexString", "slices.overlaps[caduceus/api.Type]", "internal/abi.NoEscape"], unfollowed := true, recurses := true, named := ["unicode/utf8.first", "unicode/utf8.acceptRanges", "internal/bytealg.MaxLen"], apart := false, laid := [("unicode/utf8.acceptRanges", laid_unicode_utf8_acceptRanges), ("unicode/utf8.first", laid_unicode_utf8_first)] }
def ForestBackSaid : Prop := forestBackRow.holds Tryz.pinned (OpenSpec.ofChange forestBackSpec)

/-- ITS FALSE NEIGHBOUR: 'it returns false'. Refute it at one input. -/
def forestBackWrong : ChangeSpec := { name := "forestBack", fn := fun _ => fun
  | [d1, d2] => { results := [.lit (.bool false)], args := [d1, d2] }
  | _ => none }
def ForestBackWrongFalsely : Prop := forestBackRow.holds Tryz.pinned (OpenSpec.ofChange forestBackWrong)

/- THE SECOND FORM. 'bulk': how many values and letters a reading holds, each counted each time it is reached (what is shared counts as often as it is met; a slice's spare places count too). A statement '..UptoSaid' is the law's where the arguments, and the package variables that the reading takes, are together of bulk at most 1048576: NARROWER than '..Said'. Prove '..Said' where nothing that the law and all that it calls make is longer than what came in: it says more and counts as full. Else prove '..UptoSaid'. A law counts once. -/
mutual
def uptoBulk {H : Type} : DataW H → Nat
  | .lit (.string bytes) => bytes.length + 1
  | .lit _ => 1
  | .nil => 1
  | .ptr d => uptoBulk d + 1
  | .slice elems spare => uptoBulkAll elems + uptoBulkAll spare + 1
  | .agg parts => uptoBulkAll parts + 1
  | .iface _ d => uptoBulk d + 1
  | .map entries => uptoBulkEntries entries + 1
  | .held _ => 1
def uptoBulkAll {H : Type} : List (DataW H) → Nat
  | [] => 0
  | d :: r => uptoBulk d + uptoBulkAll r
def uptoBulkEntries {H : Type} : List (Lit × DataW H) → Nat
  | [] => 0
  | x :: r => uptoBulkEntry x + uptoBulkEntries r
def uptoBulkEntry {H : Type} : Lit × DataW H → Nat
  | (.string bytes, d) => bytes.length + uptoBulk d + 1
  | (_, d) => uptoBulk d + 1
 end
def uptoSmall : (H : Type) → List (DataW H) → Bool := fun _ ds => decide (uptoBulkAll ds ≤ 1048576)
def OpenSpec.upto (s : _root_.Go.ChangeSpec) : _root_.Go.OpenSpec := { _root_.Go.OpenSpec.ofChange s with cond := some uptoSmall }

/-- 'caduceuslaw05.ForestMakes', WHERE WHAT IT READS IS OF BULK AT MOST 1048576: true; the input reads as it did. -/
def forestMakesUptoRow : OpenClaim := { program := "ytpjjbaclphoilaagreatdoor", sum := "b55ffe10d43364f7220de8d23c6dd1536328a3ba331b90d0a6ae1670f76d0eb0", func := "caduceus/caduceuslaw05.ForestMakes", spec := "forestMakes", inPlace := ["internal/bytealg.CountString", "internal/bytealg.IndexByteString", "internal/bytealg.IndexString", "slices.overlaps[caduceus/api.Type]"], unfollowed := true, recurses := true, named := ["unicode/utf8.first", "unicode/utf8.acceptRanges", "internal/bytealg.MaxLen"], apart := false, laid := [("unicode/utf8.acceptRanges", laid_unicode_utf8_acceptRanges), ("unicode/utf8.first", laid_unicode_utf8_first)], narrowed := true }
def ForestMakesUptoSaid : Prop := forestMakesUptoRow.holds Tryz.pinned (OpenSpec.upto forestMakesSpec)

/-- 'caduceuslaw05.ForestChains', WHERE WHAT IT READS IS OF BULK AT MOST 1048576: true; the input reads as it did. -/
def forestChainsUptoRow : OpenClaim := { program := "ytpjjbaclphoilaagreatdoor", sum := "b55ffe10d43364f7220de8d23c6dd1536328a3ba331b90d0a6ae1670f76d0eb0", func := "caduceus/caduceuslaw05.ForestChains", spec := "forestChains", inPlace := ["internal/bytealg.CountString", "internal/bytealg.IndexByteString", "internal/bytealg.IndexString", "slices.overlaps[caduceus/api.Type]"], unfollowed := true, recurses := true, named := ["unicode/utf8.first", "unicode/utf8.acceptRanges", "internal/bytealg.MaxLen"], apart := false, laid := [("unicode/utf8.acceptRanges", laid_unicode_utf8_acceptRanges), ("unicode/utf8.first", laid_unicode_utf8_first)], narrowed := true }
def ForestChainsUptoSaid : Prop := forestChainsUptoRow.holds Tryz.pinned (OpenSpec.upto forestChainsSpec)

/-- 'caduceuslaw05.ForestJoins', WHERE WHAT IT READS IS OF BULK AT MOST 1048576: true; the input reads as it did. -/
def forestJoinsUptoRow : OpenClaim := { program := "ytpjjbaclphoilaagreatdoor", sum := "b55ffe10d43364f7220de8d23c6dd1536328a3ba331b90d0a6ae1670f76d0eb0", func := "caduceus/caduceuslaw05.ForestJoins", spec := "forestJoins", inPlace := ["internal/bytealg.CountString", "internal/bytealg.IndexByteString", "internal/bytealg.IndexString", "slices.overlaps[caduceus/api.Type]"], unfollowed := true, recurses := true, named := ["unicode/utf8.first", "unicode/utf8.acceptRanges", "internal/bytealg.MaxLen"], apart := false, laid := [("unicode/utf8.acceptRanges", laid_unicode_utf8_acceptRanges), ("unicode/utf8.first", laid_unicode_utf8_first)], narrowed := true }
def ForestJoinsUptoSaid : Prop := forestJoinsUptoRow.holds Tryz.pinned (OpenSpec.upto forestJoinsSpec)

/-- 'caduceuslaw05.ForestFits', WHERE WHAT IT READS IS OF BULK AT MOST 1048576: true; the input reads as it did. -/
def forestFitsUptoRow : OpenClaim := { program := "ytpjjbaclphoilaagreatdoor", sum := "b55ffe10d43364f7220de8d23c6dd1536328a3ba331b90d0a6ae1670f76d0eb0", func := "caduceus/caduceuslaw05.ForestFits", spec := "forestFits", inPlace := ["internal/bytealg.CountString", "internal/bytealg.IndexByteString", "internal/bytealg.IndexString", "slices.overlaps[caduceus/api.Type]"], unfollowed := true, recurses := true, named := ["unicode/utf8.first", "unicode/utf8.acceptRanges", "internal/bytealg.MaxLen"], apart := false, laid := [("unicode/utf8.acceptRanges", laid_unicode_utf8_acceptRanges), ("unicode/utf8.first", laid_unicode_utf8_first)], narrowed := true }
def ForestFitsUptoSaid : Prop := forestFitsUptoRow.holds Tryz.pinned (OpenSpec.upto forestFitsSpec)

/-- 'caduceuslaw05.ForestBack', WHERE WHAT IT READS IS OF BULK AT MOST 1048576: true; the input reads as it did. -/
def forestBackUptoRow : OpenClaim := { program := "ytpjjbaclphoilaagreatdoor", sum := "b55ffe10d43364f7220de8d23c6dd1536328a3ba331b90d0a6ae1670f76d0eb0", func := "caduceus/caduceuslaw05.ForestBack", spec := "forestBack", inPlace := ["internal/bytealg.CountString", "internal/bytealg.IndexByteString", "internal/bytealg.IndexString", "slices.overlaps[caduceus/api.Type]", "internal/abi.NoEscape"], unfollowed := true, recurses := true, named := ["unicode/utf8.first", "unicode/utf8.acceptRanges", "internal/bytealg.MaxLen"], apart := false, laid := [("unicode/utf8.acceptRanges", laid_unicode_utf8_acceptRanges), ("unicode/utf8.first", laid_unicode_utf8_first)], narrowed := true }
def ForestBackUptoSaid : Prop := forestBackUptoRow.holds Tryz.pinned (OpenSpec.upto forestBackSpec)

end Rows
end Go.Proofs.YtpjjbaclphoilaaGreatDoor
