/- The plain side of the law ValueScans: at every text the program's Scan and Parse answer what the document's do, and the worked example holds. No premise. -/
import Derived.Test.YtoajlmmkkcelgaaDoorAx18
import Derived.Test.YtoajlmmkkcelgaaDoorPureScan
import Derived.Test.YtoajlmmkkcelgaaDoorPureAwake
namespace Go.Proofs.YtoajlmmkkcelgaaDoor.Pure
open Go.RowKit Go.Proofs.YtoajlmmkkcelgaaDoor.A Go.Proofs.YtoajlmmkkcelgaaDoorW.PrintWords Go.Proofs.YtoajlmmkkcelgaaDoorW.PrintLast Go.Lib Go.Proofs.YtoajlmmkkcelgaaDoor.U8
set_option linter.unusedVariables false
theorem ValueScans (s : ByteArray) (h0 : s.size ≤ 140737488351232) : ∃ k, caduceuslaw03_ValueScans.f k s = some true := by
  refine ⟨1000000, ?_⟩
  unfold caduceuslaw03_ValueScans.f
  have aw := awake_ev 1000000 (by omega)
  unfold caduceuslaw03_few.f
  rw [Option.bind_some]
  by_cases h : (s.size : Int) ≤ 2000
  · obtain ⟨r, hr⟩ := scan_ev s (by omega)
    obtain ⟨h1, h2⟩ := hr 1000000 (by omega)
    rw [if_pos (decide_eq_true h), h1, h2]
    unfold value_Parse.f caduceusref03_Parse.f
    rw [h1, h2, aw]
    obtain ⟨a, b, c, d, e⟩ := r
    unfold caduceuslaw03_Ref.f
    by_cases he : e = 0
    · by_cases hd : d.toList = ([] : List UInt8)
      · simp [he, hd]
      · simp [he, hd]
    · simp [he]
  · rw [if_neg (by rw [decide_eq_false h]; decide), aw]
    rfl
#print axioms ValueScans
end Go.Proofs.YtoajlmmkkcelgaaDoor.Pure
