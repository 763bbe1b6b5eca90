import Derived.Test.YtoajlmmkkcelgaaDoorAx14
import Derived.Test.YtoajlmmkkcelgaaDoorAx27
import Derived.Test.YtoajlmmkkcelgaaDoorPureFirst
namespace Go.Proofs.YtoajlmmkkcelgaaDoor.U8
open Go.RowKit Go.Proofs.YtoajlmmkkcelgaaDoor.A Go.Proofs.YtoajlmmkkcelgaaDoorW.PrintWords Go.Proofs.YtoajlmmkkcelgaaDoorW.PrintLast Go.Lib
set_option linter.unusedVariables false
set_option linter.unusedSimpArgs false
theorem byt_drop (l : List UInt8) (i j : Nat) : byt (l.drop i) j = byt l (i + j) := by
  unfold byt
  rw [List.getD_eq_getElem?_getD, List.getD_eq_getElem?_getD, List.getElem?_drop]
theorem size_len (b : ByteArray) : b.size = b.data.toList.length := (Array.length_toList).symm
theorem get_byt2 (s : ByteArray) (i : Nat) : (s.get! i).toNat = byt s.data.toList i := by
  have := get_byt s.data.toList i
  have e : (⟨s.data.toList.toArray⟩ : ByteArray) = s := by cases s; simp
  rwa [e] at this
theorem decode_drop (s : ByteArray) (i : Nat) : Utf8.decode s i = decodeL (s.data.toList.drop i) := by
  rw [decode_at, decodeL_byt, get_byt2, get_byt2, get_byt2, get_byt2, byt_drop, byt_drop, byt_drop, byt_drop, List.length_drop, ← size_len]
  rfl
theorem decode_dec (s : ByteArray) (i : Nat) (hi : i < s.size) (h : (dec (s.data.toList.drop i)).2 ≠ 0) : Utf8.decode s i = dec (s.data.toList.drop i) := by
  have hne : s.data.toList.drop i ≠ [] := by
    intro e
    have := congrArg List.length e
    rw [List.length_drop, ← size_len] at this
    simp at this
    omega
  rw [decode_drop]
  have e := dec_decodeL _ hne
  by_cases hb : decodeL (s.data.toList.drop i) = (65533, 1)
  · rw [if_pos hb] at e; rw [e] at h; exact absurd rfl h
  · rw [if_neg hb] at e; exact e.symm
/-- The runes of a text, as far as it is UTF-8. -/
def runesF : Nat → List UInt8 → List Nat
  | 0, _ => []
  | f + 1, l => if l.isEmpty then [] else if (dec l).2 = 0 then [] else (dec l).1 :: runesF f (l.drop (dec l).2)
def runesOf (l : List UInt8) : List Nat := runesF l.length l
def ints (l : List Nat) : List Int := l.map (fun x : Nat => (x : Int))
theorem runes_l0 (s : ByteArray) (hs : s.size < 1000000) (k : Nat) : ∀ (m i : Nat) (xs : List Int), i ≤ s.size → s.size - i ≤ m → xs.length ≤ i → caduceusref02_Runes.l0 (k + m + 7) s xs (i : Int) = some (xs ++ ints (runesF m (s.data.toList.drop i)))
  | 0, i, xs, h1, h2, h3 => by
    rw [show k + 0 + 7 = k + 6 + 1 by omega, caduceusref02_Runes.l0, if_neg (by omega)]
    show some xs = some (xs ++ [])
    rw [List.append_nil]
  | m + 1, i, xs, h1, h2, h3 => by
    have hl : (s.data.toList.drop i).length = s.size - i := by rw [List.length_drop, ← size_len]
    rw [show k + (m + 1) + 7 = k + m + 7 + 1 by omega, caduceusref02_Runes.l0, runesF]
    by_cases hi : i = s.size
    · have e : s.data.toList.drop i = [] := List.drop_of_length_le (by rw [← size_len]; omega)
      rw [if_neg (by omega), e]
      show some xs = some (xs ++ [])
      rw [List.append_nil]
    · have hne : ¬ ((s.data.toList.drop i).isEmpty = true) := by
        intro h; rw [List.isEmpty_iff] at h; rw [h] at hl; simp at hl; omega
      have hw := dec_width (s.data.toList.drop i)
      have hf := first_dec (s.extract i s.size) (k + m + 2)
      rw [extract_toList] at hf
      rw [if_neg hne, if_pos (by omega), if_pos (by omega), if_pos (by omega), Int.toNat_natCast, show k + m + 7 = k + m + 2 + 5 by omega, hf, Option.bind_some]
      dsimp only
      by_cases hz : (dec (s.data.toList.drop i)).2 = 0
      · rw [if_pos (by omega), if_pos hz]
        show some xs = some (xs ++ [])
        rw [List.append_nil]
      · rw [if_neg (by omega), if_neg hz, if_pos (by omega), w64 (by omega) (by omega), show ((i : Int) + ((dec (s.data.toList.drop i)).2 : Int)) = ((i + (dec (s.data.toList.drop i)).2 : Nat) : Int) by omega, show k + m + 2 + 5 = k + m + 7 by omega]
        rw [runes_l0 s hs k m (i + (dec (s.data.toList.drop i)).2) _ (by omega) (by omega) (by rw [List.length_append]; show xs.length + 1 ≤ _; omega), List.append_assoc, ← List.drop_drop]
        rfl
theorem runes_ev (s : ByteArray) (hs : s.size < 1000000) (k : Nat) (hk : s.size + 7 ≤ k) : caduceusref02_Runes.f k s = some (ints (runesOf s.data.toList)) := by
  have h := runes_l0 s hs 0 s.size 0 [] (by omega) (by omega) (by simp)
  have h0 : caduceusref02_Runes.f (s.size + 7) s = some (ints (runesOf s.data.toList)) := by
    unfold caduceusref02_Runes.f runesOf
    rw [← size_len]
    rw [show 0 + s.size + 7 = s.size + 7 by omega] at h
    exact h
  exact at_rounds (fun k => caduceusref02_Runes.mono s k) hk h0
theorem wf_i64 {n : Int} (h : (Lit.int .i64 n).wf = true) : -9223372036854775808 ≤ n ∧ n ≤ 9223372036854775807 := by
  unfold Lit.wf at h
  simp only [Bool.and_eq_true, decide_eq_true_eq] at h
  have e1 : IntKind.i64.min = -9223372036854775808 := by decide
  have e2 : IntKind.i64.max = 9223372036854775807 := by decide
  rw [e1, e2] at h
  exact h
end Go.Proofs.YtoajlmmkkcelgaaDoor.U8
