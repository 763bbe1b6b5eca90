/- What the rows of this seat list is what the walks ask of memory ('Tabs'). By mkrow.py, the session's own program. -/
import Derived.Test.YtoajlmmkkcelgaaGreatDoorRows
import Derived.Test.YtoajlmmkkcelgaaGreatDoorAx0
import Derived.Lib.LaidU8T
import Derived.PinnedBridge
import Derived.Lay
namespace Go.Proofs.YtoajlmmkkcelgaaGreatDoor
open Go.RowKit Go.Lib Go.Shelf
set_option maxRecDepth 100000
def laidList : List (String × DataW Unit) := [("math/bits.deBruijn32tab", Rows.laid_math_bits_deBruijn32tab), ("math/bits.deBruijn64tab", Rows.laid_math_bits_deBruijn64tab), ("internal/strconv.uint64pow10", Rows.laid_internal_strconv_uint64pow10), ("unicode/utf8.acceptRanges", Rows.laid_unicode_utf8_acceptRanges), ("strconv.ErrRange", Rows.laid_strconv_ErrRange), ("strconv.ErrSyntax", Rows.laid_strconv_ErrSyntax), ("unicode/utf8.first", Rows.laid_unicode_utf8_first)]
def u8ren : Ren := ⟨fun | n => n, fun | 5 => 5 | 119 => 68 | 138 => 70 | 139 => 71 | n => n, fun | 3 => 0 | 4 => 1 | n => n⟩
theorem u8types : U8Types Tryz.prog u8ren := ⟨Tryz.underlying5, Tryz.underlying68, by kernel_rfl, Tryz.underlying71⟩
theorem u8extra : U8Extra Tryz.prog u8ren := ⟨by kernel_rfl, by kernel_rfl, by kernel_rfl, by kernel_rfl, by kernel_rfl, by kernel_rfl, by kernel_rfl⟩
theorem accept_eq : (Rows.laid_unicode_utf8_acceptRanges : DataW Unit) = acceptData := by kernel_rfl
theorem tabIs_of_reads {P : Program} {W : World} {name : String} {k : IntKind} {zs : List Int} {g : Nat} {t e : TypeId} {n : Nat}
    (hg : P.globalNamed name = some g) (hty : (P.globals[g]?).map (·.type) = some t) (ht : P.underlying t = some (.array n e)) (he : P.underlying e = some (.int k)) (hce : P.cellsOf e = 1) (hct : P.cellsOf t = n)
    (h : VarReads P W name (tabData k zs)) : TabIs P W name k zs := by
  obtain ⟨g', t', cs, fuel, p, hg', ht', hvar, hd⟩ := h
  obtain rfl := Option.some.inj (hg.symm.trans hg')
  obtain rfl := Option.some.inj (hty.symm.trans ht')
  unfold TabIs
  rw [hvar, ← cells_of_tab ht he hce hct hd]
theorem bits_eq : (Rows.laid_math_bits_deBruijn64tab : DataW Unit) = tabData .u8 (deBruijn64tab.map fun (x : Nat) => (x : Int)) := by kernel_rfl
theorem pow_eq : (Rows.laid_internal_strconv_uint64pow10 : DataW Unit) = tabData .u64 pow10Tab := by kernel_rfl
theorem tabs_of_laid {W : World} (h : laidMet Tryz.prog laidList W) : A.Tabs W where
  u8 := utf8Tabs_of_readsT u8types u8extra (Pinned.utf8First_eq ▸ (show VarReads Tryz.prog W "unicode/utf8.first" Pinned.utf8First from laidMet.reads h (.tail _ (.tail _ (.tail _ (.tail _ (.tail _ (.tail _ (.head _))))))))) (accept_eq ▸ laidMet.reads h (.tail _ (.tail _ (.tail _ (.head _)))))
  tz := fun j hj => by
    have h1 : TabIs Tryz.prog W "math/bits.deBruijn64tab" .u8 (deBruijn64tab.map fun (x : Nat) => (x : Int)) := tabIs_of_reads (g := 6) (by kernel_rfl) (by kernel_rfl) Tryz.underlying114 Tryz.underlying5 (by kernel_rfl) (by kernel_rfl) (bits_eq ▸ laidMet.reads h (.tail _ (.head _)))
    have h2 := h1.cell (g := 6) (by kernel_rfl) j (by simpa using hj)
    rw [h2]; simp [List.getD_eq_getElem?_getD, List.getElem?_eq_getElem hj]
  pow := tabIs_of_reads (g := 2) (by kernel_rfl) (by kernel_rfl) Tryz.underlying96 Tryz.underlying64 (by kernel_rfl) (by kernel_rfl) (pow_eq ▸ laidMet.reads h (.tail _ (.tail _ (.head _))))
end Go.Proofs.YtoajlmmkkcelgaaGreatDoor
