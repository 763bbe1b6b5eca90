import Derived.Test.YtbfnhklafkbncaaDoorAx10
import Derived.Test.YtbfnhklafkbncaaDoorAx11
import Derived.Test.YtbfnhklafkbncaaDoorAx13
import Derived.Test.YtbfnhklafkbncaaDoorAx15
import Derived.Test.YtbfnhklafkbncaaDoorAx3
import Derived.Test.YtbfnhklafkbncaaDoorPureFirst
import Derived.Test.YtbfnhklafkbncaaDoorPureCmp
namespace Go.Proofs.YtbfnhklafkbncaaDoor.Pure
open Go.RowKit Go.Proofs.YtbfnhklafkbncaaDoor.A Go.Proofs.YtbfnhklafkbncaaDoor.U8 Go.Proofs.YtbfnhklafkbncaaDoorW.PrintWords Go.Proofs.YtbfnhklafkbncaaDoorW.PrintLast
set_option linter.unusedSimpArgs false
set_option maxRecDepth 100000 in
theorem awake_true : caduceuslaw03_awake.f 60 = some true := by decide +kernel
theorem awake_ev (k : Nat) (h : 60 ≤ k) : caduceuslaw03_awake.f k = some true := at_rounds (fun k => caduceuslaw03_awake.mono k) h awake_true
theorem few_ev (s : ByteArray) : ∃ b, caduceuslaw03_few.f s = some b := by
  unfold caduceuslaw03_few.f
  exact ⟨_, rfl⟩
theorem check_ev (k : Nat) (hk : 206 ≤ k) (a0 a1 : Int) (a2 : ByteArray) : ∃ b, value_Check.f a0 a1 a2 = some b ∧ caduceusref03_Check.f k a0 a1 a2 = some b := by
  unfold value_Check.f caduceusref03_Check.f
  by_cases hs : (a2.size : Int) ≤ 200
  · rw [valid_ev a2 (by omega) k (by omega)]
    have : utf8_ValidString.f a2 = some (Go.Lib.validD a2.data.toList) := by
      unfold utf8_ValidString.f; rw [if_pos (by omega)]
    rw [this]
    simp only [Option.bind_some]
    repeat' split
    all_goals exact ⟨_, rfl, rfl⟩
  · simp only [hs, if_false]
    repeat' split
    all_goals exact ⟨_, rfl, rfl⟩
theorem checks_j0 (k : Nat) (x : Bool) (a0 a1 : Int) (a2 : ByteArray) (b0 b1 : Int) (b2 : ByteArray) :
    caduceuslaw03_ValueChecks.j0 (k + 301) x a0 a1 a2 b0 b1 b2 = some true := by
  have aw := awake_ev (k + 300) (by omega)
  show caduceuslaw03_ValueChecks.j0 (k + 300 + 1) x a0 a1 a2 b0 b1 b2 = some true
  simp only [caduceuslaw03_ValueChecks.j0]
  cases x with
  | true => rw [if_pos rfl, aw]; rfl
  | false =>
    obtain ⟨b, e1, e2⟩ := check_ev (k + 300) (by omega) a0 a1 a2
    simp only [Bool.false_eq_true, if_false, aw, cmpV (k + 300) (by omega), refCmp (k + 300) (by omega), caduceuslaw03_Ref.f, e1, e2, Option.bind_some, if_true, beq_self_eq_true]
theorem ValueChecks (a0 a1 : Int) (a2 : ByteArray) (b0 b1 : Int) (b2 : ByteArray) :
    ∃ k, caduceuslaw03_ValueChecks.f k a0 a1 a2 b0 b1 b2 = some true := by
  refine ⟨301, ?_⟩
  have j := fun x => checks_j0 0 x a0 a1 a2 b0 b1 b2
  obtain ⟨x, hx⟩ := few_ev a2
  obtain ⟨y, hy⟩ := few_ev b2
  unfold caduceuslaw03_ValueChecks.f
  rw [hx, hy]
  simp only [Option.bind_some]
  repeat' split
  all_goals exact j _
#print axioms ValueChecks
end Go.Proofs.YtbfnhklafkbncaaDoor.Pure
