import Derived.Test.YtoajlmmkkcelgaaDoorAx11
import Derived.Test.YtoajlmmkkcelgaaDoorPureFirst
namespace Go.Proofs.YtoajlmmkkcelgaaDoor.Pure
open Go.RowKit Go.Proofs.YtoajlmmkkcelgaaDoor.A Go.Proofs.YtoajlmmkkcelgaaDoor.U8 Go.Proofs.YtoajlmmkkcelgaaDoorW.PrintWords Go.Proofs.YtoajlmmkkcelgaaDoorW.PrintLast
set_option linter.unusedSimpArgs false
set_option maxRecDepth 100000 in
theorem awake_true : caduceuslaw03_awake.f 60 = some true := by decide +kernel
theorem awake_ev (k : Nat) (h : 60 ≤ k) : caduceuslaw03_awake.f k = some true := at_rounds (fun k => caduceuslaw03_awake.mono k) h awake_true
theorem few_ev (s : ByteArray) : ∃ b, caduceuslaw03_few.f s = some b := by
  unfold caduceuslaw03_few.f
  exact ⟨_, rfl⟩
end Go.Proofs.YtoajlmmkkcelgaaDoor.Pure
