import Derived.Test.YtbfnhklafkbncaaDoorAx13
import Derived.Test.YtbfnhklafkbncaaDoorAx14
namespace Go.Proofs.YtbfnhklafkbncaaDoor.Pure
open Go.RowKit Go.Proofs.YtbfnhklafkbncaaDoor.A Go.Proofs.YtbfnhklafkbncaaDoorW.PrintWords Go.Proofs.YtbfnhklafkbncaaDoorW.PrintLast
set_option linter.unusedSimpArgs false
theorem less_cons (x y : UInt8) (a b : List UInt8) : Op.bytesLess (x :: a) (y :: b) = true ↔ x < y ∨ (x = y ∧ Op.bytesLess a b = true) := by
  simp [Op.bytesLess]
theorem less_irrefl : ∀ a, Op.bytesLess a a = false
  | [] => rfl
  | x :: a => by simp [Op.bytesLess, less_irrefl a]
theorem less_trans : ∀ a b c, Op.bytesLess a b = true → Op.bytesLess b c = true → Op.bytesLess a c = true
  | _, [], _, h, _ => by simp [Op.bytesLess] at h
  | _, _ :: _, [], _, k => by simp [Op.bytesLess] at k
  | [], _ :: _, _ :: _, _, _ => rfl
  | x :: a, y :: b, z :: c, h, k => by
    rw [less_cons] at h k ⊢
    rcases h with h | ⟨rfl, h⟩
    · rcases k with k | ⟨rfl, _⟩
      · exact .inl (UInt8.lt_trans h k)
      · exact .inl h
    · rcases k with k | ⟨rfl, k⟩
      · exact .inl k
      · exact .inr ⟨rfl, less_trans a b c h k⟩
theorem less_total : ∀ a b, Op.bytesLess a b = false → Op.bytesLess b a = false → a = b
  | [], [], _, _ => rfl
  | [], _ :: _, h, _ => by simp [Op.bytesLess] at h
  | _ :: _, [], _, k => by simp [Op.bytesLess] at k
  | x :: a, y :: b, h, k => by
    have h' : ¬ (Op.bytesLess (x :: a) (y :: b) = true) := by simp [h]
    have k' : ¬ (Op.bytesLess (y :: b) (x :: a) = true) := by simp [k]
    rw [less_cons] at h' k'
    have e : x = y := by
      have h1 : ¬ x < y := fun z => h' (.inl z)
      have h2 : ¬ y < x := fun z => k' (.inl z)
      exact UInt8.le_antisymm (UInt8.not_lt.1 h2) (UInt8.not_lt.1 h1)
    subst e
    rw [less_total a b (by simpa using fun z => h' (.inr ⟨rfl, z⟩)) (by simpa using fun z => k' (.inr ⟨rfl, z⟩))]
def cI (x y : Int) : Int := if x < y then -1 else if x > y then 1 else 0
def cB (a b : ByteArray) : Int := if Op.bytesLess a.toList b.toList = true then -1 else if a.toList = b.toList then 0 else 1
def cV (a b : Int × Int × ByteArray) : Int := if cI a.1 b.1 ≠ 0 then cI a.1 b.1 else if cI a.2.1 b.2.1 ≠ 0 then cI a.2.1 b.2.1 else cB a.2.2 b.2.2
theorem cmpI (x y : Int) : cmp_Compare_int.f x y = some (cI x y) := by
  simp only [cmp_Compare_int.f, cmp_isNaN_int.f, Option.bind_some, cI, bne_self_eq_false, Bool.false_eq_true, if_false]
  repeat' split
  all_goals first | rfl | omega
theorem cI_cases (x y : Int) : (cI x y = -1 ∧ x < y) ∨ (cI x y = 0 ∧ x = y) ∨ (cI x y = 1 ∧ y < x) := by
  unfold cI
  repeat' split
  all_goals omega
/-- Two byte strings: less, the same, or greater; what that says the other way round. -/
theorem cB_cases (a b : ByteArray) : (cB a b = -1 ∧ Op.bytesLess a.toList b.toList = true) ∨ (cB a b = 0 ∧ a.toList = b.toList) ∨ (cB a b = 1 ∧ Op.bytesLess b.toList a.toList = true) := by
  unfold cB
  by_cases h : Op.bytesLess a.toList b.toList = true
  · rw [if_pos h]; exact .inl ⟨rfl, h⟩
  · rw [if_neg h]
    by_cases e : a.toList = b.toList
    · rw [if_pos e]; exact .inr (.inl ⟨rfl, e⟩)
    · rw [if_neg e]
      refine .inr (.inr ⟨rfl, ?_⟩)
      cases k : Op.bytesLess b.toList a.toList with
      | true => rfl
      | false => exact absurd (less_total _ _ (by simpa using h) k) e
theorem orV (k : Nat) (h : 4 ≤ k) (x y z : Int) : cmp_Or_int.f k [x, y, z] = some (if x ≠ 0 then x else if y ≠ 0 then y else z) := by
  obtain ⟨k, rfl⟩ : ∃ m, k = m + 4 := ⟨k - 4, by omega⟩
  have w1 : wrap64 (0 + 1) = 1 := by unfold wrap64; omega
  have w2 : wrap64 (1 + 1) = 2 := by unfold wrap64; omega
  have w3 : wrap64 (2 + 1) = 3 := by unfold wrap64; omega
  have r0 : rd [x, y, z] 0 = x := rfl
  have r1 : rd [x, y, z] 1 = y := rfl
  have r2 : rd [x, y, z] 2 = z := rfl
  have l3 : (([x, y, z] : List Int).length : Int) = 3 := rfl
  simp only [cmp_Or_int.f, cmp_Or_int.l0, l3, r0, r1, r2, w1, w2, w3]
  by_cases hx : x = 0
  · by_cases hy : y = 0
    · by_cases hz : z = 0
      · simp [hx, hy, hz]
      · simp [hx, hy, hz]
    · simp [hx, hy]
  · simp [hx]
theorem cmpV (k : Nat) (h : 4 ≤ k) (a0 a1 : Int) (a2 : ByteArray) (b0 b1 : Int) (b2 : ByteArray) : value_Compare.f k a0 a1 a2 b0 b1 b2 = some (cV (a0, a1, a2) (b0, b1, b2)) := by
  simp only [value_Compare.f, cmpI, cmp_Compare_string.f, Option.bind_some, orV k h, cV, cB]
/-- How two values stand: three ways, and what each says. -/
def VLt (a b : Int × Int × ByteArray) : Prop := a.1 < b.1 ∨ (a.1 = b.1 ∧ (a.2.1 < b.2.1 ∨ (a.2.1 = b.2.1 ∧ Op.bytesLess a.2.2.toList b.2.2.toList = true)))
def VEq (a b : Int × Int × ByteArray) : Prop := a.1 = b.1 ∧ a.2.1 = b.2.1 ∧ a.2.2.toList = b.2.2.toList
theorem cV_cases (a b : Int × Int × ByteArray) : (cV a b = -1 ∧ VLt a b) ∨ (cV a b = 0 ∧ VEq a b) ∨ (cV a b = 1 ∧ VLt b a) := by
  obtain ⟨a0, a1, a2⟩ := a
  obtain ⟨b0, b1, b2⟩ := b
  unfold cV VLt VEq
  have c0 := cI_cases a0 b0
  have c1 := cI_cases a1 b1
  have c2 := cB_cases a2 b2
  simp only
  rcases c0 with ⟨e, c⟩ | ⟨e, c⟩ | ⟨e, c⟩
  · rw [e]; exact .inl ⟨by rw [if_pos (by decide)], .inl c⟩
  · rw [e, if_neg (by decide)]
    rcases c1 with ⟨e1, d⟩ | ⟨e1, d⟩ | ⟨e1, d⟩
    · rw [e1]; exact .inl ⟨by rw [if_pos (by decide)], .inr ⟨c, .inl d⟩⟩
    · rw [e1, if_neg (by decide)]
      rcases c2 with ⟨e2, g⟩ | ⟨e2, g⟩ | ⟨e2, g⟩
      · exact .inl ⟨e2, .inr ⟨c, .inr ⟨d, g⟩⟩⟩
      · exact .inr (.inl ⟨e2, c, d, g⟩)
      · exact .inr (.inr ⟨e2, .inr ⟨c.symm, .inr ⟨d.symm, g⟩⟩⟩)
    · rw [e1]; exact .inr (.inr ⟨by rw [if_pos (by decide)], .inr ⟨c.symm, .inl d⟩⟩)
  · rw [e]; exact .inr (.inr ⟨by rw [if_pos (by decide)], .inl c⟩)
theorem VLt.trans {a b c : Int × Int × ByteArray} (h : VLt a b) (k : VLt b c) : VLt a c := by
  unfold VLt at *
  rcases h with h | ⟨h, h | ⟨h1, h2⟩⟩ <;> rcases k with k | ⟨k, k | ⟨k1, k2⟩⟩
  all_goals first
    | exact .inl (by omega)
    | exact .inr ⟨by omega, .inl (by omega)⟩
    | exact .inr ⟨by omega, .inr ⟨by omega, less_trans _ _ _ h2 k2⟩⟩
theorem VLt.irrefl {a : Int × Int × ByteArray} (h : VLt a a) : False := by
  unfold VLt at h
  rcases h with h | ⟨_, h | ⟨_, h⟩⟩
  · omega
  · omega
  · rw [less_irrefl] at h; cases h
theorem VEq.lt {a b c : Int × Int × ByteArray} (h : VEq a b) (k : VLt b c) : VLt a c := by
  unfold VLt VEq at *
  rw [h.1, h.2.1, h.2.2]; exact k
theorem VEq.lt' {a b c : Int × Int × ByteArray} (h : VEq a b) (k : VLt c b) : VLt c a := by
  unfold VLt VEq at *
  rw [h.1, h.2.1, h.2.2]; exact k
theorem VEq.symm {a b : Int × Int × ByteArray} (h : VEq a b) : VEq b a := ⟨h.1.symm, h.2.1.symm, h.2.2.symm⟩
theorem cV_of_lt {a b : Int × Int × ByteArray} (h : VLt a b) : cV a b = -1 := by
  rcases cV_cases a b with ⟨e, _⟩ | ⟨_, k⟩ | ⟨_, k⟩
  · exact e
  · exact (VEq.lt k.symm h).irrefl.elim
  · exact (h.trans k).irrefl.elim
theorem cV_of_gt {a b : Int × Int × ByteArray} (h : VLt b a) : cV a b = 1 := by
  rcases cV_cases a b with ⟨_, k⟩ | ⟨_, k⟩ | ⟨e, _⟩
  · exact (h.trans k).irrefl.elim
  · exact (VEq.lt k h).irrefl.elim
  · exact e
theorem cV_of_eq {a b : Int × Int × ByteArray} (h : VEq a b) : cV a b = 0 := by
  rcases cV_cases a b with ⟨_, k⟩ | ⟨e, _⟩ | ⟨_, k⟩
  · exact (VEq.lt h.symm k).irrefl.elim
  · exact e
  · exact (VEq.lt h k).irrefl.elim
theorem refCmp (k : Nat) (h : 1 ≤ k) (a0 a1 : Int) (a2 : ByteArray) (b0 b1 : Int) (b2 : ByteArray) : caduceusref03_Compare.f k a0 a1 a2 b0 b1 b2 = some (cV (a0, a1, a2) (b0, b1, b2)) := by
  obtain ⟨k, rfl⟩ : ∃ m, k = m + 1 := ⟨k - 1, by omega⟩
  unfold caduceusref03_Compare.f
  simp only [caduceusref03_Compare.j0, Bool.false_eq_true, if_true, if_false]
  unfold cV cI cB
  simp only
  by_cases h0 : a0 < b0
  · simp [h0]
  by_cases h1 : a0 = b0
  · subst h1
    by_cases h2 : a1 < b1
    · simp [h2]
    by_cases h3 : a1 = b1
    · subst h3
      by_cases h4 : Op.bytesLess a2.toList b2.toList = true
      · simp [h4]
      · by_cases h5 : a2.toList = b2.toList
        · simp [h5, less_irrefl]
        · simp [h4, h5]
    · have h4 : b1 < a1 := by omega
      simp [h2, h3, h4]
  · have h4 : b0 < a0 := by omega
    simp [h0, h1, h4]
end Go.Proofs.YtbfnhklafkbncaaDoor.Pure
