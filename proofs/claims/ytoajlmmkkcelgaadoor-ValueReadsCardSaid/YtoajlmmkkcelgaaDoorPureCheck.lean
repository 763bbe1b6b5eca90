import Derived.Test.YtoajlmmkkcelgaaDoorAx10
import Derived.Test.YtoajlmmkkcelgaaDoorAx26
import Derived.Test.YtoajlmmkkcelgaaDoorAx9
import Derived.Test.YtoajlmmkkcelgaaDoorPureFirst
import Derived.Test.YtoajlmmkkcelgaaDoorPureAwake
namespace Go.Proofs.YtoajlmmkkcelgaaDoor.Pure
open Go.RowKit Go.Proofs.YtoajlmmkkcelgaaDoor.A Go.Proofs.YtoajlmmkkcelgaaDoor.U8 Go.Proofs.YtoajlmmkkcelgaaDoorW.PrintWords Go.Proofs.YtoajlmmkkcelgaaDoorW.PrintLast
set_option linter.unusedSimpArgs false
set_option maxRecDepth 100000 in
theorem check_ev (k : Nat) (hk : 206 ≤ k) (a0 a1 : Int) (a2 : ByteArray) : ∃ b, value_Check.f a0 a1 a2 = some b ∧ caduceusref03_Check.f k a0 a1 a2 = some b := by
  unfold value_Check.f caduceusref03_Check.f
  by_cases hs : (a2.size : Int) ≤ 200
  · rw [valid_ev a2 (by omega) k (by omega)]
    have : utf8_ValidString.f a2 = some (Go.Lib.validD a2.data.toList) := by
      unfold utf8_ValidString.f; rw [if_pos (by omega)]
    rw [this]
    simp only [Option.bind_some]
    repeat' split
    all_goals exact ⟨_, rfl, rfl⟩
  · simp only [hs, if_false]
    repeat' split
    all_goals exact ⟨_, rfl, rfl⟩
end Go.Proofs.YtoajlmmkkcelgaaDoor.Pure
