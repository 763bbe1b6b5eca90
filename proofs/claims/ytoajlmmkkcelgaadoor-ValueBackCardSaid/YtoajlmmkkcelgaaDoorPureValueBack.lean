import Derived.Lib.DecodeNEq
import Derived.Lib.ValidU
import Derived.Lib.Bytes
import Derived.Lib.MapLaws
import Derived.Test.YtoajlmmkkcelgaaDoorAx0
import Derived.Test.YtoajlmmkkcelgaaDoorAx4
import Derived.Test.YtoajlmmkkcelgaaDoorAx5
import Derived.Test.YtoajlmmkkcelgaaDoorAx6
import Derived.Test.YtoajlmmkkcelgaaDoorAx7
import Derived.Test.YtoajlmmkkcelgaaDoorAx8
import Derived.Test.YtoajlmmkkcelgaaDoorAx9
import Derived.Test.YtoajlmmkkcelgaaDoorAx10
import Derived.Test.YtoajlmmkkcelgaaDoorAx11
import Derived.Test.YtoajlmmkkcelgaaDoorAx12
import Derived.Test.YtoajlmmkkcelgaaDoorAx13
import Derived.Test.YtoajlmmkkcelgaaDoorAx14
import Derived.Test.YtoajlmmkkcelgaaDoorAx20
import Derived.Test.YtoajlmmkkcelgaaDoorAx21
import Derived.Test.YtoajlmmkkcelgaaDoorAx22
import Derived.Test.YtoajlmmkkcelgaaDoorAx23
import Derived.Test.YtoajlmmkkcelgaaDoorAx24
import Derived.Test.YtoajlmmkkcelgaaDoorAx25
import Derived.Test.YtoajlmmkkcelgaaDoorAx31
import Derived.Test.YtoajlmmkkcelgaaDoorAx43
import Derived.Test.YtoajlmmkkcelgaaDoorAx44
namespace Go.Proofs.YtoajlmmkkcelgaaDoor.U8
open Go.RowKit Go.Proofs.YtoajlmmkkcelgaaDoorW.PrintWords Go.Proofs.YtoajlmmkkcelgaaDoorW.PrintLast Go.Lib
set_option linter.unusedVariables false
/-- Is a byte one that goes on? -/
def tl (n i b : Nat) : Prop := i < n ∧ 128 ≤ b ∧ b < 192
instance (n i b : Nat) : Decidable (tl n i b) := by unfold tl; exact inferInstance
/-- The rune at the front, and how many bytes it has; (0, 0): there is none. As the document defines it. -/
def decR (n b0 b1 b2 b3 : Nat) : Nat × Nat :=
  if n = 0 then (0, 0)
  else if b0 < 128 then (b0, 1)
  else if 194 ≤ b0 ∧ b0 < 224 ∧ tl n 1 b1 then (64 * (b0 - 192) + (b1 - 128), 2)
  else if 224 ≤ b0 ∧ b0 < 240 ∧ tl n 1 b1 ∧ tl n 2 b2 ∧ 2048 ≤ 4096 * (b0 - 224) + 64 * (b1 - 128) + (b2 - 128) ∧ (4096 * (b0 - 224) + 64 * (b1 - 128) + (b2 - 128) < 55296 ∨ 57343 < 4096 * (b0 - 224) + 64 * (b1 - 128) + (b2 - 128)) then (4096 * (b0 - 224) + 64 * (b1 - 128) + (b2 - 128), 3)
  else if 240 ≤ b0 ∧ b0 < 245 ∧ tl n 1 b1 ∧ tl n 2 b2 ∧ tl n 3 b3 ∧ 65536 ≤ 262144 * (b0 - 240) + 4096 * (b1 - 128) + 64 * (b2 - 128) + (b3 - 128) ∧ 262144 * (b0 - 240) + 4096 * (b1 - 128) + 64 * (b2 - 128) + (b3 - 128) ≤ 1114111 then (262144 * (b0 - 240) + 4096 * (b1 - 128) + 64 * (b2 - 128) + (b3 - 128), 4)
  else (0, 0)
set_option maxHeartbeats 4000000 in
set_option maxRecDepth 100000 in
theorem decR_decodeN (n b0 b1 b2 b3 : Nat) (hn : n ≠ 0) (h0 : b0 < 256) (h1 : b1 < 256) (h2 : b2 < 256) (h3 : b3 < 256) :
    decR n b0 b1 b2 b3 = if decodeN n b0 b1 b2 b3 = (65533, 1) then (0, 0) else decodeN n b0 b1 b2 b3 := by
  have fin : ∀ X Y : Nat × Nat, decR n b0 b1 b2 b3 = X → decodeN n b0 b1 b2 b3 = Y → (X = if Y = (65533, 1) then (0, 0) else Y) → decR n b0 b1 b2 b3 = if decodeN n b0 b1 b2 b3 = (65533, 1) then (0, 0) else decodeN n b0 b1 b2 b3 := by
    intro X Y e1 e2 e3; rw [e1, e2]; exact e3
  have bad : decR n b0 b1 b2 b3 = (0, 0) → decodeN n b0 b1 b2 b3 = (65533, 1) → decR n b0 b1 b2 b3 = if decodeN n b0 b1 b2 b3 = (65533, 1) then (0, 0) else decodeN n b0 b1 b2 b3 := fun e1 e2 => fin _ _ e1 e2 (by rw [if_pos rfl])
  have good : ∀ X : Nat × Nat, X.2 ≠ 1 ∨ X.1 ≠ 65533 → decR n b0 b1 b2 b3 = X → decodeN n b0 b1 b2 b3 = X → decR n b0 b1 b2 b3 = if decodeN n b0 b1 b2 b3 = (65533, 1) then (0, 0) else decodeN n b0 b1 b2 b3 := fun X h e1 e2 => fin _ _ e1 e2 (by
    rw [if_neg]; intro e; rw [e] at h; simp at h)
  by_cases c0 : b0 < 128
  · exact good (b0, 1) (.inr (by show b0 ≠ 65533; omega)) (by unfold decR; rw [if_neg hn, if_pos c0]) (by unfold decodeN; rw [if_pos c0])
  by_cases c1 : b0 < 192
  · exact bad (by unfold decR; rw [if_neg hn, if_neg c0, if_neg (by omega), if_neg (by omega), if_neg (by omega)]) (by unfold decodeN; rw [if_neg c0, if_neg (by omega), if_neg (by omega), if_neg (by omega)])
  by_cases c2 : b0 < 224
  · by_cases k : 194 ≤ b0 ∧ b0 < 224 ∧ tl n 1 b1
    · have k' := k
      unfold tl at k'
      refine good (64 * (b0 - 192) + (b1 - 128), 2) (.inl (by simp)) (by unfold decR; rw [if_neg hn, if_neg c0, if_pos k]) ?_
      unfold decodeN
      rw [if_neg c0, if_pos (by omega), if_pos (by omega)]
      exact Prod.ext (by show _ = _; omega) rfl
    · have k' := k
      unfold tl at k'
      refine bad (by unfold decR; rw [if_neg hn, if_neg c0, if_neg k, if_neg (by omega), if_neg (by omega)]) ?_
      unfold decodeN
      rw [if_neg c0]
      by_cases k2 : b0 / 32 = 6 ∧ 1 < n ∧ b1 / 64 = 2
      · rw [if_pos k2, if_neg (by omega)]
      · rw [if_neg k2, if_neg (by omega), if_neg (by omega)]
  by_cases c3 : b0 < 240
  · by_cases k : 224 ≤ b0 ∧ b0 < 240 ∧ tl n 1 b1 ∧ tl n 2 b2 ∧ 2048 ≤ 4096 * (b0 - 224) + 64 * (b1 - 128) + (b2 - 128) ∧ (4096 * (b0 - 224) + 64 * (b1 - 128) + (b2 - 128) < 55296 ∨ 57343 < 4096 * (b0 - 224) + 64 * (b1 - 128) + (b2 - 128))
    · have k' := k
      unfold tl at k'
      refine good (4096 * (b0 - 224) + 64 * (b1 - 128) + (b2 - 128), 3) (.inl (by simp)) (by unfold decR; rw [if_neg hn, if_neg c0, if_neg (by omega), if_pos k]) ?_
      unfold decodeN
      rw [if_neg c0, if_neg (by omega), if_pos (by omega), if_pos (by omega)]
      exact Prod.ext (by show _ = _; omega) rfl
    · have k' := k
      unfold tl at k'
      refine bad (by unfold decR; rw [if_neg hn, if_neg c0, if_neg (by omega), if_neg k, if_neg (by omega)]) ?_
      unfold decodeN
      rw [if_neg c0, if_neg (by omega)]
      by_cases k2 : b0 / 16 = 14 ∧ (1 < n ∧ b1 / 64 = 2) ∧ (2 < n ∧ b2 / 64 = 2)
      · rw [if_pos k2, if_neg (by omega)]
      · rw [if_neg k2, if_neg (by omega)]
  · by_cases k : 240 ≤ b0 ∧ b0 < 245 ∧ tl n 1 b1 ∧ tl n 2 b2 ∧ tl n 3 b3 ∧ 65536 ≤ 262144 * (b0 - 240) + 4096 * (b1 - 128) + 64 * (b2 - 128) + (b3 - 128) ∧ 262144 * (b0 - 240) + 4096 * (b1 - 128) + 64 * (b2 - 128) + (b3 - 128) ≤ 1114111
    · have k' := k
      unfold tl at k'
      refine good (262144 * (b0 - 240) + 4096 * (b1 - 128) + 64 * (b2 - 128) + (b3 - 128), 4) (.inl (by simp)) (by unfold decR; rw [if_neg hn, if_neg c0, if_neg (by omega), if_neg (by omega), if_pos k]) ?_
      unfold decodeN
      rw [if_neg c0, if_neg (by omega), if_neg (by omega), if_pos (by omega), if_pos (by omega)]
      exact Prod.ext (by show _ = _; omega) rfl
    · have k' := k
      unfold tl at k'
      refine bad (by unfold decR; rw [if_neg hn, if_neg c0, if_neg (by omega), if_neg (by omega), if_neg k]) ?_
      unfold decodeN
      rw [if_neg c0, if_neg (by omega), if_neg (by omega)]
      by_cases k2 : b0 / 8 = 30 ∧ (1 < n ∧ b1 / 64 = 2) ∧ (2 < n ∧ b2 / 64 = 2) ∧ (3 < n ∧ b3 / 64 = 2)
      · rw [if_pos k2, if_neg (by omega)]
      · rw [if_neg k2]
/-- Byte i of a list, as a number; 0 beyond its end. -/
def byt (l : List UInt8) (i : Nat) : Nat := (l.getD i 0).toNat
theorem byt_lt (l : List UInt8) (i : Nat) : byt l i < 256 := UInt8.toNat_lt _
def dec (l : List UInt8) : Nat × Nat := decR l.length (byt l 0) (byt l 1) (byt l 2) (byt l 3)
theorem get_byt (l : List UInt8) (i : Nat) : ((⟨l.toArray⟩ : ByteArray).get! i).toNat = byt l i := by
  unfold byt
  show (l.toArray[i]!).toNat = _
  by_cases h : i < l.length
  · simp [h, List.getD_eq_getElem?_getD]
  · simp [h, List.getD_eq_getElem?_getD]
    rfl
theorem decodeL_byt (l : List UInt8) : decodeL l = decodeN l.length (byt l 0) (byt l 1) (byt l 2) (byt l 3) := by
  unfold decodeL
  rw [decode_at]
  simp only [Nat.zero_add, get_byt]
  rfl
theorem dec_decodeL (l : List UInt8) (h : l ≠ []) : dec l = if decodeL l = (65533, 1) then (0, 0) else decodeL l := by
  rw [decodeL_byt]
  exact decR_decodeN _ _ _ _ _ (by simpa using h) (byt_lt _ _) (byt_lt _ _) (byt_lt _ _) (byt_lt _ _)
theorem bt_byt (s : ByteArray) (i : Int) : bt s i = (byt s.data.toList i.toNat : Int) := by
  unfold bt byt
  split
  · rename_i h
    have : i.toNat < s.data.toList.length := by rw [Array.length_toList]; exact h
    simp only [List.getD_eq_getElem?_getD, List.getElem?_eq_getElem this, Option.getD_some, Array.getElem_toList]
    rfl
  · rename_i h
    have : s.data.toList.length ≤ i.toNat := by rw [Array.length_toList]; exact Nat.not_lt.1 h
    simp [List.getD_eq_getElem?_getD, List.getElem?_eq_none this]
/-- Its width: none, or one to four, and no more than there are bytes. -/
theorem dec_width (l : List UInt8) : (dec l).2 ≤ 4 ∧ (dec l).2 ≤ l.length ∧ ((dec l).2 = 0 → (dec l).1 = 0) ∧ (dec l).1 ≤ 1114111 := by
  have h0 := byt_lt l 0
  have h1 := byt_lt l 1
  have h2 := byt_lt l 2
  have h3 := byt_lt l 3
  unfold dec decR tl
  repeat' split
  all_goals (refine ⟨?_, ?_, ?_, ?_⟩ <;> first | (simp only; omega) | (intro _; rfl) | (intro h; simp at h))
/-- Is a text UTF-8, from front to end? -/
def validF : Nat → List UInt8 → Bool
  | 0, l => l.isEmpty
  | f + 1, l => if l.isEmpty then true else if (dec l).2 = 0 then false else validF f (l.drop (dec l).2)
theorem validGoD_validF : ∀ (f : Nat) (l : List UInt8), l.length ≤ f → validGoD f l = validF f l
  | 0, l, h => by
    have : l = [] := List.eq_nil_of_length_eq_zero (by omega)
    subst this; rfl
  | f + 1, l, h => by
    by_cases hl : l = []
    · unfold validGoD validF; rw [if_pos hl, if_pos (by simp [hl])]
    · have e := dec_decodeL l hl
      have hw := dec_width l
      have hG : validGoD (f + 1) l = if (decodeL l).1 = 65533 ∧ (decodeL l).2 = 1 then false else validGoD f (l.drop (decodeL l).2) := by
        conv => lhs; unfold validGoD
        rw [if_neg hl]
      have hF : validF (f + 1) l = if (dec l).2 = 0 then false else validF f (l.drop (dec l).2) := by
        conv => lhs; unfold validF
        rw [if_neg (by simpa using hl)]
      rw [hG, hF]
      by_cases hb : decodeL l = (65533, 1)
      · rw [if_pos (by rw [hb]; exact ⟨rfl, rfl⟩), if_pos (by rw [e, if_pos hb])]
      · rw [if_neg hb] at e
        have hpos := decodeL_width l
        rw [if_neg (fun h => hb (Prod.ext h.1 h.2)), if_neg (by rw [e]; omega), e]
        refine validGoD_validF f _ ?_
        rw [List.length_drop]; omega
theorem validD_validF (l : List UInt8) : validD l = validF l.length l := validGoD_validF _ _ (Nat.le_refl _)
end Go.Proofs.YtoajlmmkkcelgaaDoor.U8
namespace Go.Proofs.YtoajlmmkkcelgaaDoor.U8
open Go.RowKit Go.Proofs.YtoajlmmkkcelgaaDoor.A Go.Proofs.YtoajlmmkkcelgaaDoorW.PrintWords Go.Proofs.YtoajlmmkkcelgaaDoorW.PrintLast Go.Lib
set_option linter.unusedVariables false
set_option linter.unusedSimpArgs false
theorem w64 {x : Int} (h0 : -9223372036854775808 ≤ x) (h1 : x ≤ 9223372036854775807) : wrap64 x = x := by unfold wrap64; omega
theorem toList_nil (s : ByteArray) : (s.toList = ([] : List UInt8)) ↔ s.size = 0 := by
  rw [ByteArray.toList_eq]
  constructor
  · intro h
    have := data_length s
    rw [h] at this
    exact this.symm
  · intro h
    exact List.eq_nil_of_length_eq_zero (by rw [data_length]; exact h)
theorem extract_toList (s : ByteArray) (i : Nat) : (s.extract i s.size).data.toList = s.data.toList.drop i := by
  have e : s.size = s.data.toList.length := (Array.length_toList).symm
  rw [ByteArray.data_extract, Array.toList_extract, e]
  simp [List.extract]
  exact List.take_of_length_le (by rw [List.length_drop]; omega)
theorem byt_drop (l : List UInt8) (i j : Nat) : byt (l.drop i) j = byt l (i + j) := by
  unfold byt
  rw [List.getD_eq_getElem?_getD, List.getD_eq_getElem?_getD, List.getElem?_drop]
theorem size_len (b : ByteArray) : b.size = b.data.toList.length := (Array.length_toList).symm
end Go.Proofs.YtoajlmmkkcelgaaDoor.U8
namespace Go.Proofs.YtoajlmmkkcelgaaDoor.U8
open Go.RowKit Go.Proofs.YtoajlmmkkcelgaaDoor.A Go.Proofs.YtoajlmmkkcelgaaDoorW.PrintWords Go.Proofs.YtoajlmmkkcelgaaDoorW.PrintLast Go.Lib
set_option linter.unusedVariables false
set_option linter.unusedSimpArgs false
theorem or8 (n b : Int) (h0 : 0 ≤ n) (h1 : n < 18014398509481984) (b0 : 0 ≤ b) (b1 : b < 256) : Go.bits .or .i64 (n * 256) b = 256 * n + b := by
  have h := bits_join .i64 63 (by decide) (fun n h0 h1 => by have e : (2 : Int) ^ 63 = 9223372036854775808 := by decide
                                                             rw [e] at h1; rw [IntKind.wrap_i64]; omega) 8 (n * 256) b (by omega) (by have e : (2 : Int) ^ 8 = 256 := by decide
                                                                                                                                      rw [e]; omega) (by have e : (2 : Int) ^ 63 = 9223372036854775808 := by decide
                                                                                                                                                         rw [e]; omega) b0 (by have e : (2 : Int) ^ 8 = 256 := by decide
                                                                                                                                                                               rw [e]; omega) (by have e : (2 : Int) ^ 63 = 9223372036854775808 := by decide
                                                                                                                                                                                                  rw [e]; omega)
  rw [h]; omega
theorem and63 (b : Int) (b0 : 0 ≤ b) (b1 : b < 256) : Go.bits .and .u8 b 63 = b % 64 := by
  have h : ∀ n : Fin 256, Go.bits .and .u8 (n.val : Int) 63 = (n.val : Int) % 64 := by decide +kernel
  have := h ⟨b.toNat, by omega⟩
  simp only at this
  rw [Int.toNat_of_nonneg b0] at this
  exact this
/-- The number of the first bytes, the first one without its two upper bits. -/
def be (l : List UInt8) : Nat → Nat
  | 0 => byt l 0 % 64
  | i + 1 => 256 * be l i + byt l (i + 1)
theorem be_lt (l : List UInt8) : ∀ i, be l i < 64 * 256 ^ i
  | 0 => by show byt l 0 % 64 < _; omega
  | i + 1 => by
    have h := be_lt l i
    have b := byt_lt l (i + 1)
    show 256 * be l i + byt l (i + 1) < _
    rw [Nat.pow_succ]
    generalize 256 ^ i = P at *
    omega
theorem be_small (l : List UInt8) (i : Nat) (h : i ≤ 6) : be l i < 18014398509481984 := by
  have h1 := be_lt l i
  have h2 : 256 ^ i ≤ 256 ^ 6 := Nat.pow_le_pow_right (by decide) h
  have e : 256 ^ 6 = 281474976710656 := by decide
  rw [e] at h2
  omega
theorem be_max (l : List UInt8) (i : Nat) (h : i ≤ 7) : be l i ≤ 4611686018427387903 := by
  have h1 := be_lt l i
  have h2 : 256 ^ i ≤ 256 ^ 7 := Nat.pow_le_pow_right (by decide) h
  have e : 256 ^ 7 = 72057594037927936 := by decide
  rw [e] at h2
  omega
theorem btb (s : ByteArray) (i : Nat) : bt s (i : Int) = (byt s.data.toList i : Int) := by
  have := bt_byt s (i : Int)
  rwa [Int.toNat_natCast] at this
theorem qloop (s : ByteArray) (sz : Nat) (hz : sz ≤ 8) (hs : sz ≤ s.size) (k : Nat) : ∀ m i, sz = i + 1 + m →
    quic_Get.l0 (k + m) s (be s.data.toList i : Int) (sz : Int) ((i + 1 : Nat) : Int) = quic_Get.l0 k s (be s.data.toList (sz - 1) : Int) (sz : Int) (sz : Int)
  | 0, i, h => by rw [show sz - 1 = i by omega, show i + 1 = sz by omega]; rfl
  | m + 1, i, h => by
    have h1 := be_small s.data.toList i (by omega)
    have h2 := byt_lt s.data.toList (i + 1)
    have ih := qloop s sz hz hs k m (i + 1) (by omega)
    show quic_Get.l0 (k + m + 1) s _ _ _ = _
    rw [quic_Get.l0, if_pos (by omega), if_pos (by omega), if_pos (by omega), btb, w64 (x := (be s.data.toList i : Int) * 256) (by omega) (by omega), w64 (x := ((byt s.data.toList (i + 1) : Nat) : Int)) (by omega) (by omega), or8 _ _ (by omega) (by omega) (by omega) (by omega), w64 (by omega) (by omega)]
    rw [← ih]
    show _ = quic_Get.l0 (k + m) s ((256 * be s.data.toList i + byt s.data.toList (i + 1) : Nat) : Int) _ _
    congr 1
/-- How many bytes a number has that may be written. -/
def szOf (n : Nat) : Nat := if n < 64 then 1 else if n < 16384 then 2 else if n < 1073741824 then 4 else 8
theorem qsize (n : Nat) (h : n ≤ 4611686018427387903) (k : Nat) : quic_Size.f (k + 1) (n : Int) = some (szOf n : Int) := by
  unfold quic_Size.f szOf
  rw [if_neg (by omega), quic_Size.j0, if_neg (by simp; omega)]
  have e1 : wrap64 (1 * 2) = 2 := by unfold wrap64; omega
  have e2 : wrap64 (2 * 2) = 4 := by unfold wrap64; omega
  have e3 : wrap64 (4 * 2) = 8 := by unfold wrap64; omega
  rw [e1, e2, e3]
  by_cases h1 : n < 64
  · rw [if_neg (by omega), if_neg (by omega), if_neg (by omega), if_pos h1]; rfl
  by_cases h2 : n < 16384
  · rw [if_neg (by omega), if_neg (by omega), if_pos (by omega), if_neg h1, if_pos h2]; rfl
  by_cases h3 : n < 1073741824
  · rw [if_neg (by omega), if_pos (by omega), if_neg h1, if_neg h2, if_pos h3]; rfl
  · rw [if_pos (by omega), if_neg h1, if_neg h2, if_neg h3]; rfl
/-- A number's bytes. -/
def numB (n : Nat) : List Int :=
  if n < 64 then [(n : Int)]
  else if n < 16384 then [((n / 256 + 64 : Nat) : Int), ((n % 256 : Nat) : Int)]
  else if n < 1073741824 then [((n / 16777216 + 128 : Nat) : Int), ((n / 65536 % 256 : Nat) : Int), ((n / 256 % 256 : Nat) : Int), ((n % 256 : Nat) : Int)]
  else [((n / 72057594037927936 + 192 : Nat) : Int), ((n / 281474976710656 % 256 : Nat) : Int), ((n / 1099511627776 % 256 : Nat) : Int), ((n / 4294967296 % 256 : Nat) : Int), ((n / 16777216 % 256 : Nat) : Int), ((n / 65536 % 256 : Nat) : Int), ((n / 256 % 256 : Nat) : Int), ((n % 256 : Nat) : Int)]
theorem numB_len (n : Nat) : (numB n).length = szOf n := by
  unfold numB szOf
  repeat' split
  all_goals rfl
theorem szOf_cases (n : Nat) : (n < 64 ∧ szOf n = 1) ∨ (64 ≤ n ∧ n < 16384 ∧ szOf n = 2) ∨ (16384 ≤ n ∧ n < 1073741824 ∧ szOf n = 4) ∨ (1073741824 ≤ n ∧ szOf n = 8) := by
  unfold szOf
  repeat' split
  all_goals omega
/-- The number at the front of bytes: the number, what is left, the error. -/
def getS (s : ByteArray) : Int × ByteArray × Int :=
  if s.size = 0 then (0, ⟨#[]⟩, 7)
  else if s.size < 2 ^ (byt s.data.toList 0 / 64) then (0, ⟨#[]⟩, 7)
  else if szOf (be s.data.toList (2 ^ (byt s.data.toList 0 / 64) - 1)) = 2 ^ (byt s.data.toList 0 / 64) then ((be s.data.toList (2 ^ (byt s.data.toList 0 / 64) - 1) : Int), s.extract (2 ^ (byt s.data.toList 0 / 64)) s.size, 0)
  else (0, ⟨#[]⟩, 3)
theorem shlc (c : Nat) (h : c ≤ 3) : shl .i64 1 (c : Int) = ((2 ^ c : Nat) : Int) := by
  have : c = 0 ∨ c = 1 ∨ c = 2 ∨ c = 3 := by omega
  rcases this with rfl | rfl | rfl | rfl <;> decide
theorem pow_le8 (c : Nat) (h : c ≤ 3) : 1 ≤ 2 ^ c ∧ 2 ^ c ≤ 8 := by
  have : c = 0 ∨ c = 1 ∨ c = 2 ∨ c = 3 := by omega
  rcases this with rfl | rfl | rfl | rfl <;> decide
theorem qget (s : ByteArray) (hs : s.size < 1000000) (k : Nat) : quic_Get.f (k + 12) s = some (getS s) := by
  have hb := byt_lt s.data.toList 0
  have e0 : bt s 0 = byt s.data.toList 0 := bt_byt s 0
  have hp := pow_le8 (byt s.data.toList 0 / 64) (by omega)
  have e2 : shl .i64 1 ((byt s.data.toList 0 : Int) / 64) = ((2 ^ (byt s.data.toList 0 / 64) : Nat) : Int) := by
    have := shlc (byt s.data.toList 0 / 64) (by omega)
    rwa [Int.natCast_ediv] at this
  unfold quic_Get.f getS
  by_cases hz : s.size = 0
  · rw [if_pos ((toList_nil s).2 hz), if_pos hz]
  rw [if_neg (fun h => hz ((toList_nil s).1 h)), if_neg hz, if_pos (by omega), e0, if_pos (by omega), e2, and63 _ (by omega) (by omega)]
  generalize hsz : 2 ^ (byt s.data.toList 0 / 64) = sz at *
  by_cases hl : s.size < sz
  · rw [if_pos (by omega), if_pos hl]
  rw [if_neg (by omega), if_neg hl, w64 (by omega) (by omega)]
  have ql := qloop s sz hp.2 (by omega) (k + 12 - (sz - 1)) (sz - 1) 0 (by omega)
  rw [show k + 12 - (sz - 1) + (sz - 1) = k + 12 by omega] at ql
  have e3 : ((be s.data.toList 0 : Nat) : Int) = (byt s.data.toList 0 : Int) % 64 := rfl
  rw [← e3]
  refine ql.trans ?_
  obtain ⟨q, hq⟩ : ∃ q, k + 12 - (sz - 1) = q + 1 + 1 := ⟨k + 12 - (sz - 1) - 2, by omega⟩
  rw [hq, quic_Get.l0, if_neg (by omega), qsize _ (be_max _ _ (by omega)) q]
  simp only [Option.bind_some]
  by_cases hf : szOf (be s.data.toList (sz - 1)) = sz
  · rw [if_pos (by omega), if_pos (by omega), if_pos (by omega), if_pos hf, Int.toNat_natCast]
  · rw [if_neg (by omega), if_neg hf]
end Go.Proofs.YtoajlmmkkcelgaaDoor.U8
namespace Go.Proofs.YtoajlmmkkcelgaaDoor.U8
open Go.RowKit Go.Proofs.YtoajlmmkkcelgaaDoor.A Go.Proofs.YtoajlmmkkcelgaaDoorW.PrintWords Go.Proofs.YtoajlmmkkcelgaaDoorW.PrintLast Go.Lib
set_option linter.unusedVariables false
set_option linter.unusedSimpArgs false
theorem st256 (n P : Nat) : 256 * (n / (P * 256)) + n / P % 256 = n / P := by
  rw [← Nat.div_div_eq_div_mul]; omega
/-- A number's bytes, as bytes. -/
def encN (n : Nat) : List UInt8 := Go.Lib.bytesOf (numB n)
theorem encN_len (n : Nat) : (encN n).length = szOf n := by
  unfold encN Go.Lib.bytesOf
  rw [List.length_map, numB_len]
theorem ub (n : Nat) (h : n < 256) : (UInt8.ofNat (n : Int).toNat).toNat = n := by rw [Int.toNat_natCast, UInt8.toNat_ofNat']; omega
theorem enc_be (n : Nat) (h : n ≤ 4611686018427387903) (r : List UInt8) : 2 ^ (byt (encN n ++ r) 0 / 64) = szOf n ∧ be (encN n ++ r) (szOf n - 1) = n := by
  have p0 : (2 : Nat) ^ 0 = 1 := by decide
  have p1 : (2 : Nat) ^ 1 = 2 := by decide
  have p2 : (2 : Nat) ^ 2 = 4 := by decide
  have p3 : (2 : Nat) ^ 3 = 8 := by decide
  unfold encN numB szOf
  by_cases h1 : n < 64
  · rw [if_pos h1, if_pos h1]
    have b0 : byt (Go.Lib.bytesOf [(n : Int)] ++ r) 0 = n := ub n (by omega)
    refine ⟨by rw [b0, show n / 64 = 0 by omega], ?_⟩
    show byt _ 0 % 64 = n
    rw [b0]; omega
  rw [if_neg h1, if_neg h1]
  by_cases h2 : n < 16384
  · rw [if_pos h2, if_pos h2]
    have b0 : byt (Go.Lib.bytesOf [((n / 256 + 64 : Nat) : Int), ((n % 256 : Nat) : Int)] ++ r) 0 = n / 256 + 64 := ub _ (by omega)
    have b1 : byt (Go.Lib.bytesOf [((n / 256 + 64 : Nat) : Int), ((n % 256 : Nat) : Int)] ++ r) 1 = n % 256 := ub _ (by omega)
    refine ⟨by rw [b0, show (n / 256 + 64) / 64 = 1 by omega], ?_⟩
    show 256 * (byt _ 0 % 64) + byt _ 1 = n
    rw [b0, b1]; omega
  rw [if_neg h2, if_neg h2]
  by_cases h3 : n < 1073741824
  · rw [if_pos h3, if_pos h3]
    generalize hl : Go.Lib.bytesOf [((n / 16777216 + 128 : Nat) : Int), ((n / 65536 % 256 : Nat) : Int), ((n / 256 % 256 : Nat) : Int), ((n % 256 : Nat) : Int)] ++ r = l
    have b0 : byt l 0 = n / 16777216 + 128 := by rw [← hl]; exact ub _ (by omega)
    have b1 : byt l 1 = n / 65536 % 256 := by rw [← hl]; exact ub _ (by omega)
    have b2 : byt l 2 = n / 256 % 256 := by rw [← hl]; exact ub _ (by omega)
    have b3 : byt l 3 = n % 256 := by rw [← hl]; exact ub _ (by omega)
    refine ⟨by rw [b0, show (n / 16777216 + 128) / 64 = 2 by omega], ?_⟩
    show 256 * (256 * (256 * (byt l 0 % 64) + byt l 1) + byt l 2) + byt l 3 = n
    rw [b0, b1, b2, b3, show (n / 16777216 + 128) % 64 = n / 16777216 by omega]
    rw [show 256 * (n / 16777216) + n / 65536 % 256 = n / 65536 from st256 n 65536, show 256 * (n / 65536) + n / 256 % 256 = n / 256 from st256 n 256]; omega
  · rw [if_neg h3, if_neg h3]
    generalize hl : Go.Lib.bytesOf [((n / 72057594037927936 + 192 : Nat) : Int), ((n / 281474976710656 % 256 : Nat) : Int), ((n / 1099511627776 % 256 : Nat) : Int), ((n / 4294967296 % 256 : Nat) : Int), ((n / 16777216 % 256 : Nat) : Int), ((n / 65536 % 256 : Nat) : Int), ((n / 256 % 256 : Nat) : Int), ((n % 256 : Nat) : Int)] ++ r = l
    have b0 : byt l 0 = n / 72057594037927936 + 192 := by rw [← hl]; exact ub _ (by omega)
    have b1 : byt l 1 = n / 281474976710656 % 256 := by rw [← hl]; exact ub _ (by omega)
    have b2 : byt l 2 = n / 1099511627776 % 256 := by rw [← hl]; exact ub _ (by omega)
    have b3 : byt l 3 = n / 4294967296 % 256 := by rw [← hl]; exact ub _ (by omega)
    have b4 : byt l 4 = n / 16777216 % 256 := by rw [← hl]; exact ub _ (by omega)
    have b5 : byt l 5 = n / 65536 % 256 := by rw [← hl]; exact ub _ (by omega)
    have b6 : byt l 6 = n / 256 % 256 := by rw [← hl]; exact ub _ (by omega)
    have b7 : byt l 7 = n % 256 := by rw [← hl]; exact ub _ (by omega)
    refine ⟨by rw [b0, show (n / 72057594037927936 + 192) / 64 = 3 by omega], ?_⟩
    show 256 * (256 * (256 * (256 * (256 * (256 * (256 * (byt l 0 % 64) + byt l 1) + byt l 2) + byt l 3) + byt l 4) + byt l 5) + byt l 6) + byt l 7 = n
    rw [b0, b1, b2, b3, b4, b5, b6, b7, show (n / 72057594037927936 + 192) % 64 = n / 72057594037927936 by omega]
    rw [show 256 * (n / 72057594037927936) + n / 281474976710656 % 256 = n / 281474976710656 from st256 n 281474976710656, show 256 * (n / 281474976710656) + n / 1099511627776 % 256 = n / 1099511627776 from st256 n 1099511627776, show 256 * (n / 1099511627776) + n / 4294967296 % 256 = n / 4294967296 from st256 n 4294967296, show 256 * (n / 4294967296) + n / 16777216 % 256 = n / 16777216 from st256 n 16777216, show 256 * (n / 16777216) + n / 65536 % 256 = n / 65536 from st256 n 65536, show 256 * (n / 65536) + n / 256 % 256 = n / 256 from st256 n 256]; omega
theorem szOf_pos (n : Nat) : 1 ≤ szOf n ∧ szOf n ≤ 8 := by have := szOf_cases n; omega
theorem get_fwd (s : ByteArray) (n : Nat) (h : n ≤ 4611686018427387903) (r : List UInt8) (hs : s.data.toList = encN n ++ r) :
    getS s = ((n : Int), s.extract (szOf n) s.size, 0) ∧ s.data.toList.drop (szOf n) = r ∧ szOf n ≤ s.size := by
  have hl := congrArg List.length hs
  rw [List.length_append, ← size_len, encN_len] at hl
  have hp := szOf_pos n
  obtain ⟨e1, e2⟩ := enc_be n h r
  rw [← hs] at e1 e2
  refine ⟨?_, by rw [hs, ← encN_len, List.drop_left], by omega⟩
  unfold getS
  rw [if_neg (by omega), e1, if_neg (by omega), e2, if_pos rfl]
theorem orC (x c : Nat) (hx : x < 64) (hc : c < 4) : Go.bits .or .u8 (x : Int) ((64 * c : Nat) : Int) = ((x + 64 * c : Nat) : Int) := by
  have all : ∀ (x : Fin 64) (c : Fin 4), Go.bits .or .u8 (x.val : Int) ((64 * c.val : Nat) : Int) = ((x.val + 64 * c.val : Nat) : Int) := by decide +kernel
  exact all ⟨x, hx⟩ ⟨c, hc⟩
theorem qstep (n sz : Nat) (h : n ≤ 4611686018427387903) (hsz : sz ≤ 8) (L : List Int) (hL : L.length = sz) (j : Nat) (hj : j < sz) (P : Nat) (hP : P = 2 ^ (8 * j)) (J K : Int) (hJ : J = j) (hK : K = (j : Int) + 1) (k : Nat) :
    quic_Num.l0 (k + 1) (n : Int) (sz : Int) L (sz : Int) J = quic_Num.l0 k (n : Int) (sz : Int) (L.set (sz - 1 - j) ((n / P % 256 : Nat) : Int)) (sz : Int) K := by
  subst hJ hK
  have e : wrap64 (8 * (j : Int)) = ((8 * j : Nat) : Int) := by rw [w64 (by omega) (by omega)]; omega
  have e1 : wrap64 (wrap64 ((sz : Int) - 1) - (j : Int)) = ((sz - 1 - j : Nat) : Int) := by
    rw [w64 (x := (sz : Int) - 1) (by omega) (by omega), w64 (by omega) (by omega)]; omega
  have e3 : shr .i64 (n : Int) ((8 * j : Nat) : Int) = ((n / P : Nat) : Int) := by
    unfold shr
    rw [Int.toNat_natCast, Nat.min_eq_left (by show 8 * j ≤ 64; omega), hP, Int.natCast_ediv]
    congr 1
  rw [quic_Num.l0, if_pos (by omega), e, if_pos (by omega), e1, if_pos (by omega), if_pos (by rw [hL]; omega), e3, Int.toNat_natCast, Int.natCast_emod, w64 (by omega) (by omega)]
  rfl
theorem qlast (n sz : Nat) (L : List Int) (hL : L.length = sz) (hz : 1 ≤ sz) (J : Int) (hJ : J = (sz : Int)) (c x : Nat) (hc : c < 4) (k : Nat) (hcl : quic_class.f k (sz : Int) = some (c : Int)) (hx : rd L 0 = (x : Int)) (hx6 : x < 64) :
    quic_Num.l0 (k + 1) (n : Int) (sz : Int) L (sz : Int) J = some (strOfNums (L.set 0 ((x + 64 * c : Nat) : Int))) := by
  subst hJ
  rw [quic_Num.l0, if_neg (by omega), if_pos (by omega), hcl, Option.bind_some, hx, w64 (by omega) (by omega), show ((c : Int) * 64) % 256 = ((64 * c : Nat) : Int) by omega, orC x c hx6 hc]
  rfl
theorem cls2 (k : Nat) : quic_class.f (k + 5) ((2 : Nat) : Int) = some ((1 : Nat) : Int) := by
  unfold quic_class.f
  rw [quic_class.l0, if_pos (by decide), show wrap64 (Int.tdiv ((2 : Nat) : Int) 2) = 1 by decide +kernel, show wrap64 (0 + 1) = 1 by decide +kernel, quic_class.l0, if_neg (by decide)]; rfl
theorem cls4 (k : Nat) : quic_class.f (k + 5) ((4 : Nat) : Int) = some ((2 : Nat) : Int) := by
  unfold quic_class.f
  rw [quic_class.l0, if_pos (by decide), show wrap64 (Int.tdiv ((4 : Nat) : Int) 2) = 2 by decide +kernel, show wrap64 (0 + 1) = 1 by decide +kernel, quic_class.l0, if_pos (by decide), show wrap64 (Int.tdiv 2 2) = 1 by decide +kernel, show wrap64 (1 + 1) = 2 by decide +kernel, quic_class.l0, if_neg (by decide)]; rfl
theorem cls8 (k : Nat) : quic_class.f (k + 5) ((8 : Nat) : Int) = some ((3 : Nat) : Int) := by
  unfold quic_class.f
  rw [quic_class.l0, if_pos (by decide), show wrap64 (Int.tdiv ((8 : Nat) : Int) 2) = 4 by decide +kernel, show wrap64 (0 + 1) = 1 by decide +kernel, quic_class.l0, if_pos (by decide), show wrap64 (Int.tdiv 4 2) = 2 by decide +kernel, show wrap64 (1 + 1) = 2 by decide +kernel, quic_class.l0, if_pos (by decide), show wrap64 (Int.tdiv 2 2) = 1 by decide +kernel, show wrap64 (2 + 1) = 3 by decide +kernel, quic_class.l0, if_neg (by decide)]; rfl
theorem numq (n : Nat) (h : n ≤ 4611686018427387903) (k : Nat) : quic_Num.f (k + 20) (n : Int) = some (strOfNums (numB n)) := by
  unfold quic_Num.f
  rw [show k + 20 = k + 19 + 1 by omega, qsize n h (k + 19), Option.bind_some]
  have hp := szOf_pos n
  rw [if_neg (by omega), if_pos (by omega), if_pos (by omega), Int.toNat_natCast]
  unfold szOf numB
  by_cases h1 : n < 64
  · rw [if_pos h1, if_pos h1, qstep n 1 h (by omega) _ rfl 0 (by omega) 1 (by decide) 0 1 rfl rfl]
    rw [qlast n 1 _ rfl (by omega) 1 rfl 0 (n / 1 % 256) (by omega) (k + 18) rfl rfl (by omega), show n / 1 % 256 + 64 * 0 = n by omega]; rfl
  rw [if_neg h1, if_neg h1]
  by_cases h2 : n < 16384
  · rw [if_pos h2, if_pos h2, qstep n 2 h (by omega) _ rfl 0 (by omega) 1 (by decide) 0 1 rfl rfl, qstep n 2 h (by omega) _ rfl 1 (by omega) 256 (by decide) 1 2 rfl rfl]
    rw [qlast n 2 _ rfl (by omega) 2 rfl 1 (n / 256 % 256) (by omega) (k + 17) (cls2 (k + 12)) rfl (by omega), show n / 256 % 256 + 64 * 1 = n / 256 + 64 by omega]
    rw [show n / 1 % 256 = n % 256 by omega]; rfl
  rw [if_neg h2, if_neg h2]
  by_cases h3 : n < 1073741824
  · rw [if_pos h3, if_pos h3, qstep n 4 h (by omega) _ rfl 0 (by omega) 1 (by decide) 0 1 rfl rfl, qstep n 4 h (by omega) _ rfl 1 (by omega) 256 (by decide) 1 2 rfl rfl, qstep n 4 h (by omega) _ rfl 2 (by omega) 65536 (by decide) 2 3 rfl rfl, qstep n 4 h (by omega) _ rfl 3 (by omega) 16777216 (by decide) 3 4 rfl rfl]
    rw [qlast n 4 _ rfl (by omega) 4 rfl 2 (n / 16777216 % 256) (by omega) (k + 15) (cls4 (k + 10)) rfl (by omega), show n / 16777216 % 256 + 64 * 2 = n / 16777216 + 128 by omega]
    rw [show n / 1 % 256 = n % 256 by omega]; rfl
  · rw [if_neg h3, if_neg h3, qstep n 8 h (by omega) _ rfl 0 (by omega) 1 (by decide) 0 1 rfl rfl, qstep n 8 h (by omega) _ rfl 1 (by omega) 256 (by decide) 1 2 rfl rfl, qstep n 8 h (by omega) _ rfl 2 (by omega) 65536 (by decide) 2 3 rfl rfl, qstep n 8 h (by omega) _ rfl 3 (by omega) 16777216 (by decide) 3 4 rfl rfl,
      qstep n 8 h (by omega) _ rfl 4 (by omega) 4294967296 (by decide) 4 5 rfl rfl, qstep n 8 h (by omega) _ rfl 5 (by omega) 1099511627776 (by decide) 5 6 rfl rfl, qstep n 8 h (by omega) _ rfl 6 (by omega) 281474976710656 (by decide) 6 7 rfl rfl, qstep n 8 h (by omega) _ rfl 7 (by omega) 72057594037927936 (by decide) 7 8 rfl rfl]
    rw [qlast n 8 _ rfl (by omega) 8 rfl 3 (n / 72057594037927936 % 256) (by omega) (k + 11) (cls8 (k + 6)) rfl (by omega), show n / 72057594037927936 % 256 + 64 * 3 = n / 72057594037927936 + 192 by omega]
    rw [show n / 1 % 256 = n % 256 by omega]; rfl
end Go.Proofs.YtoajlmmkkcelgaaDoor.U8
namespace Go.Proofs.YtoajlmmkkcelgaaDoor.U8
open Go.RowKit Go.Proofs.YtoajlmmkkcelgaaDoor.A Go.Proofs.YtoajlmmkkcelgaaDoorW.PrintWords Go.Proofs.YtoajlmmkkcelgaaDoorW.PrintLast Go.Lib
set_option linter.unusedVariables false
set_option linter.unusedSimpArgs false
/-- A letter, as the document says. -/
def letB (c : Int) : Bool := (65 ≤ c && c ≤ 90) || (97 ≤ c && c ≤ 122) || (192 ≤ c && c ≤ 591 && c != 215 && c != 247) || (913 ≤ c && c ≤ 937 && c != 930) || (945 ≤ c && c ≤ 969) || (1040 ≤ c && c ≤ 1103) || (19968 ≤ c && c ≤ 40959)
theorem letter_q (c : Int) (k : Nat) : name_Letter.f (k + 1) c = some (letB c) := by
  by_cases e1 : c = 215
  · subst e1; rfl
  by_cases e2 : c = 247
  · subst e2; rfl
  by_cases e3 : c = 930
  · subst e3; rfl
  have n1 : (c = 215) = False := eq_false e1
  have m1 : (c != 215) = true := bne_iff_ne.2 e1
  have m2 : (c != 247) = true := bne_iff_ne.2 e2
  have m3 : (c != 930) = true := bne_iff_ne.2 e3
  have cs : c < 65 ∨ (65 ≤ c ∧ c < 91) ∨ (91 ≤ c ∧ c < 97) ∨ (97 ≤ c ∧ c < 123) ∨ (123 ≤ c ∧ c < 192) ∨ (192 ≤ c ∧ c < 592) ∨ (592 ≤ c ∧ c < 913) ∨ (913 ≤ c ∧ c < 938) ∨ (938 ≤ c ∧ c < 945) ∨ (945 ≤ c ∧ c < 970) ∨ (970 ≤ c ∧ c < 1040) ∨ (1040 ≤ c ∧ c < 1104) ∨ (1104 ≤ c ∧ c < 19968) ∨ (19968 ≤ c ∧ c < 40960) ∨ 40960 ≤ c := by omega
  rcases cs with h | h | h | h | h | h | h | h | h | h | h | h | h | h | h
  all_goals (
    (first | have l65 : (65 ≤ c) = True := eq_true (by omega) | have l65 : (65 ≤ c) = False := eq_false (by omega)); (first | have u90 : (c ≤ 90) = True := eq_true (by omega) | have u90 : (c ≤ 90) = False := eq_false (by omega));
    (first | have l97 : (97 ≤ c) = True := eq_true (by omega) | have l97 : (97 ≤ c) = False := eq_false (by omega)); (first | have u122 : (c ≤ 122) = True := eq_true (by omega) | have u122 : (c ≤ 122) = False := eq_false (by omega));
    (first | have l192 : (192 ≤ c) = True := eq_true (by omega) | have l192 : (192 ≤ c) = False := eq_false (by omega)); (first | have u591 : (c ≤ 591) = True := eq_true (by omega) | have u591 : (c ≤ 591) = False := eq_false (by omega));
    (first | have l913 : (913 ≤ c) = True := eq_true (by omega) | have l913 : (913 ≤ c) = False := eq_false (by omega)); (first | have u937 : (c ≤ 937) = True := eq_true (by omega) | have u937 : (c ≤ 937) = False := eq_false (by omega));
    (first | have l945 : (945 ≤ c) = True := eq_true (by omega) | have l945 : (945 ≤ c) = False := eq_false (by omega)); (first | have u969 : (c ≤ 969) = True := eq_true (by omega) | have u969 : (c ≤ 969) = False := eq_false (by omega));
    (first | have l1040 : (1040 ≤ c) = True := eq_true (by omega) | have l1040 : (1040 ≤ c) = False := eq_false (by omega)); (first | have u1103 : (c ≤ 1103) = True := eq_true (by omega) | have u1103 : (c ≤ 1103) = False := eq_false (by omega));
    (first | have l19968 : (19968 ≤ c) = True := eq_true (by omega) | have l19968 : (19968 ≤ c) = False := eq_false (by omega)); (first | have u40959 : (c ≤ 40959) = True := eq_true (by omega) | have u40959 : (c ≤ 40959) = False := eq_false (by omega))
    )
  all_goals simp only [name_Letter.f, name_Letter.j0, name_between.f, letB, ge_iff_le, n1, m1, m2, m3, l65, u90, l97, u122, l192, u591, l913, u937, l945, u969, l1040, u1103, l19968, u40959, Option.bind_some, if_true, if_false, decide_true, decide_false, Bool.and_true, Bool.and_false, Bool.true_and, Bool.false_and, Bool.or_true, Bool.or_false, Bool.true_or, Bool.false_or, Bool.false_eq_true]
theorem decGo (s : ByteArray) (h : s.size ≠ 0) : Lib.decodeGo s = decodeL s.data.toList := by
  unfold Lib.decodeGo decodeL
  rw [if_neg h]
def wordB (c : Int) : Bool := letB c || (c == 95 || (c == 45 || (decide (48 ≤ c) && decide (c ≤ 57))))
/-- Does a word go on at the front? -/
def goesB (l : List UInt8) : Bool := if (dec l).2 = 0 then false else wordB (dec l).1
theorem word_if (c : Int) : (if letB c = true then some true else (if c = 95 then some true else (if c = 45 then some true else (if c ≥ 48 then some (decide (c ≤ 57)) else some false)))) = some (wordB c) := by
  unfold wordB
  by_cases h1 : letB c = true
  · simp [h1]
  by_cases h2 : c = 95
  · simp [h2]
  by_cases h3 : c = 45
  · simp [h3]
  by_cases h4 : c ≥ 48
  · have : decide (48 ≤ c) = true := decide_eq_true h4
    have b2 : (c == 95) = false := beq_eq_false_iff_ne.mpr h2
    have b3 : (c == 45) = false := beq_eq_false_iff_ne.mpr h3
    simp [h1, h2, h3, h4, this, b2, b3]
  · have : decide (48 ≤ c) = false := decide_eq_false h4
    have b2 : (c == 95) = false := beq_eq_false_iff_ne.mpr h2
    have b3 : (c == 45) = false := beq_eq_false_iff_ne.mpr h3
    simp [h1, h2, h3, h4, this, b2, b3]
theorem goes_q (s : ByteArray) (k : Nat) : value_goesOn.f (k + 1) s = some (goesB s.data.toList) := by
  unfold value_goesOn.f utf8_DecodeRuneInString.f goesB
  simp only [Option.bind_some, letter_q, word_if]
  by_cases hz : s.size = 0
  · have e : Lib.decodeGo s = (65533, 0) := by unfold Lib.decodeGo; rw [if_pos hz]
    have e2 : s.data.toList = [] := List.eq_nil_of_length_eq_zero (by rw [data_length]; exact hz)
    rw [e, e2]; rfl
  · rw [decGo s hz]
    have hne : s.data.toList ≠ [] := by intro h; rw [← ByteArray.toList_eq] at h; exact hz ((toList_nil s).1 h)
    have e := dec_decodeL s.data.toList hne
    have hw := decodeL_width s.data.toList
    by_cases hb : decodeL s.data.toList = (65533, 1)
    · rw [if_pos hb] at e
      rw [hb, e]; rfl
    · rw [if_neg hb] at e
      rw [e, if_pos (by omega), if_neg (by omega)]
/-- Does a text begin with another one? -/
def preB (s p : ByteArray) : Bool := if p.size ≤ s.size then (s.extract 0 p.size).toList == p.toList else false
theorem pre_q (s p : ByteArray) : strings_HasPrefix.f s p = some (preB s p) := by
  unfold strings_HasPrefix.f stringslite_HasPrefix.f preB
  by_cases h : p.size ≤ s.size
  · simp only [show (s.size : Int) ≥ (p.size : Int) by omega, show (0 : Int) ≤ (p.size : Int) by omega, show (p.size : Int) ≤ (s.size : Int) by omega, h, if_true, Int.toNat_natCast, Option.bind_some]
  · simp only [show ¬ (s.size : Int) ≥ (p.size : Int) by omega, h, if_false, Option.bind_some]
theorem pre_l (s p : ByteArray) : stringslite_HasPrefix.f s p = some (preB s p) := by
  have := pre_q s p
  unfold strings_HasPrefix.f at this
  cases h : stringslite_HasPrefix.f s p with
  | none => rw [h] at this; cases this
  | some x => rw [h] at this; exact this
theorem pre_size {s p : ByteArray} (h : preB s p = true) : p.size ≤ s.size := by
  unfold preB at h
  by_cases c : p.size ≤ s.size
  · exact c
  · rw [if_neg c] at h; cases h
theorem pre_byte {s p : ByteArray} (h : preB s p = true) (hp : p.size ≠ 0) : byt s.data.toList 0 = byt p.data.toList 0 := by
  have hs := pre_size h
  unfold preB at h
  rw [if_pos hs, beq_iff_eq, ByteArray.toList_eq, ByteArray.toList_eq, ByteArray.data_extract, Array.toList_extract] at h
  have e : (s.data.toList.extract 0 p.size) = s.data.toList.take p.size := by simp [List.extract]
  rw [e] at h
  rw [← h]
  unfold byt
  cases hl : s.data.toList with
  | nil => simp
  | cons b t =>
    obtain ⟨n, hn⟩ : ∃ n, p.size = n + 1 := ⟨p.size - 1, by omega⟩
    rw [hn]; rfl
theorem cut_q (s p : ByteArray) : strings_CutPrefix.f s p = some (if preB s p = true then (s.extract p.size s.size, true) else (s, false)) := by
  unfold strings_CutPrefix.f stringslite_CutPrefix.f
  rw [pre_l]
  simp only [Option.bind_some]
  by_cases h : preB s p = true
  · have hs := pre_size h
    rw [if_pos h, if_pos h, if_pos (by omega), if_pos (by omega)]; rfl
  · rw [if_neg h, if_neg h]; rfl
def wTrue : ByteArray := ⟨#[116, 114, 117, 101]⟩
def wFalse : ByteArray := ⟨#[102, 97, 108, 115, 101]⟩
/-- A bool's literal at the front: what stands there. -/
def boolS (s : ByteArray) : Int × Int × ByteArray × ByteArray × Int :=
  if preB s wTrue = true ∧ goesB (s.data.toList.drop 4) = false then (3, 1, ⟨#[]⟩, s.extract 4 s.size, 0)
  else if preB s wFalse = true ∧ goesB (s.data.toList.drop 5) = false then (3, 0, ⟨#[]⟩, s.extract 5 s.size, 0)
  else (0, 0, ⟨#[]⟩, ⟨#[]⟩, 3)
theorem bool_q (s : ByteArray) (k : Nat) : value_boolean.f (k + 4) s = some (boolS s) := by
  have w1 : wrap64 (0 + 1) = 1 := by unfold wrap64; omega
  have w2 : wrap64 (1 + 1) = 2 := by unfold wrap64; omega
  have l2 : (([(⟨#[102, 97, 108, 115, 101]⟩ : ByteArray), (⟨#[116, 114, 117, 101]⟩ : ByteArray)] : List ByteArray).length : Int) = 2 := rfl
  have r0 : rdOf ByteArray.empty [(⟨#[102, 97, 108, 115, 101]⟩ : ByteArray), (⟨#[116, 114, 117, 101]⟩ : ByteArray)] 0 = wFalse := rfl
  have r1 : rdOf ByteArray.empty [(⟨#[102, 97, 108, 115, 101]⟩ : ByteArray), (⟨#[116, 114, 117, 101]⟩ : ByteArray)] 1 = wTrue := rfl
  have z4 : wTrue.size = 4 := rfl
  have z5 : wFalse.size = 5 := rfl
  have end_ : ∀ l, value_boolean.l0 (k + 2) s l 2 2 = some (0, 0, ⟨#[]⟩, ⟨#[]⟩, 3) := fun l => by rw [value_boolean.l0, if_neg (by omega)]
  have two : value_boolean.l0 (k + 3) s [(⟨#[102, 97, 108, 115, 101]⟩ : ByteArray), (⟨#[116, 114, 117, 101]⟩ : ByteArray)] 2 1 = some (if preB s wTrue = true ∧ goesB (s.data.toList.drop 4) = false then (3, 1, ⟨#[]⟩, s.extract 4 s.size, 0) else (0, 0, ⟨#[]⟩, ⟨#[]⟩, 3)) := by
    rw [value_boolean.l0, l2, if_pos (by omega), if_pos (by omega), if_pos (by omega), r1, cut_q]
    simp only [Option.bind_some]
    by_cases h : preB s wTrue = true
    · simp only [h, if_true, true_and, z4]
      rw [show k + 2 = k + 1 + 1 by omega, goes_q, extract_toList]
      simp only [Option.bind_some]
      by_cases g : goesB (s.data.toList.drop 4) = true
      · rw [if_pos g, w2, end_, if_neg (by simp [g])]
      · rw [if_neg g, if_pos (by simpa using g)]
    · simp only [h, if_false, false_and, Bool.false_eq_true]
      rw [w2, end_]
  unfold value_boolean.f boolS
  simp only [Option.bind_some]
  rw [value_boolean.l0, l2, if_pos (by omega), if_pos (by omega), if_pos (by omega), r0, cut_q]
  simp only [Option.bind_some]
  by_cases h : preB s wFalse = true
  · have hn : ¬ preB s wTrue = true := fun h2 => by
      have e1 := pre_byte h (by decide)
      have e2 := pre_byte h2 (by decide)
      rw [e1] at e2
      exact absurd e2 (by decide)
    simp only [h, if_true, true_and, z5, hn, if_false, false_and]
    rw [show k + 3 = k + 2 + 1 by omega, goes_q, extract_toList]
    simp only [Option.bind_some]
    by_cases g : goesB (s.data.toList.drop 5) = true
    · rw [if_pos g, w1, two]
      simp [hn, g]
    · have g' : goesB (s.data.toList.drop 5) = false := by simpa using g
      rw [if_neg g]
      simp [g']
  · simp only [h, if_false, false_and, Bool.false_eq_true]
    rw [w1, two]
end Go.Proofs.YtoajlmmkkcelgaaDoor.U8
namespace Go.Proofs.YtoajlmmkkcelgaaDoor.U8
open Go.RowKit Go.Proofs.YtoajlmmkkcelgaaDoor.A Go.Proofs.YtoajlmmkkcelgaaDoorW.PrintWords Go.Proofs.YtoajlmmkkcelgaaDoorW.PrintLast Go.Lib
set_option linter.unusedVariables false
set_option linter.unusedSimpArgs false
/-- How many digits stand at the front, and the number that they are. -/
def dg : List UInt8 → Nat
  | [] => 0
  | b :: l => if 48 ≤ b.toNat ∧ b.toNat ≤ 57 then dg l + 1 else 0
@[irreducible] def dv (a : Nat) (b : UInt8) : Nat := a * 10 + (b.toNat - 48)
theorem dv_eq (a : Nat) (b : UInt8) : dv a b = a * 10 + (b.toNat - 48) := by unfold dv; rfl
def nv (a : Nat) : List UInt8 → Nat
  | [] => a
  | b :: l => nv (dv a b) l
theorem dg_le : ∀ l, dg l ≤ l.length
  | [] => Nat.le_refl _
  | b :: l => by
    unfold dg
    have := dg_le l
    split
    · simp only [List.length_cons]; omega
    · omega
theorem nv_cons (a : Nat) (b : UInt8) (l : List UInt8) : nv a (b :: l) = nv (dv a b) l := rfl
theorem decF_cons (a : Nat) (b : UInt8) (l : List UInt8) (h : 48 ≤ b.toNat ∧ b.toNat ≤ 57) : decFrom a (b :: l) = decFrom (a * 10 + (b.toNat - 48)) l := by
  simp only [decFrom, digitVal, if_pos h]
theorem dg_pos (b : UInt8) (l : List UInt8) (h : 48 ≤ b.toNat ∧ b.toNat ≤ 57) : dg (b :: l) = dg l + 1 := by
  simp only [dg, if_pos h]
theorem dg_neg (b : UInt8) (l : List UInt8) (h : ¬ (48 ≤ b.toNat ∧ b.toNat ≤ 57)) : dg (b :: l) = 0 := by
  simp only [dg, if_neg h]
theorem dec_nv : ∀ (l : List UInt8) (a : Nat), decFrom a (l.take (dg l)) = some (nv a (l.take (dg l)))
  | [], a => rfl
  | b :: l, a => by
    by_cases h : 48 ≤ b.toNat ∧ b.toNat ≤ 57
    · rw [dg_pos b l h, List.take_succ_cons, decF_cons _ _ _ h, nv_cons, dv_eq]
      exact dec_nv l _
    · rw [dg_neg b l h]; rfl
theorem drop_at (l : List UInt8) (i : Nat) (h : i < l.length) : ∃ b, l.drop i = b :: l.drop (i + 1) ∧ byt l i = b.toNat := by
  refine ⟨l[i], List.drop_eq_getElem_cons h, ?_⟩
  unfold byt
  rw [List.getD_eq_getElem?_getD, List.getElem?_eq_getElem h]; rfl
theorem btq (s : ByteArray) (i : Nat) : bt s (i : Int) = (byt s.data.toList i : Int) := by
  have := bt_byt s (i : Int)
  rwa [Int.toNat_natCast] at this
theorem digits_l0 (s : ByteArray) (hs : s.size < 1000000) (k : Nat) : ∀ (m i : Nat), i ≤ s.size → s.size - i ≤ m → value_digits.l0 (k + m + 1) s (i : Int) = some ((i + dg (s.data.toList.drop i) : Nat) : Int)
  | m, i, h1, h2 => by
    have hl : s.data.toList.length = s.size := data_length s
    by_cases hi : i = s.size
    · rw [List.drop_of_length_le (by omega), value_digits.l0, if_neg (by omega)]; rfl
    · obtain ⟨m, rfl⟩ : ∃ q, m = q + 1 := ⟨m - 1, by omega⟩
      obtain ⟨b, hd, hb⟩ := drop_at s.data.toList i (by omega)
      have hlt := byt_lt s.data.toList i
      rw [value_digits.l0, if_pos (by omega), if_pos (by omega), btq, hd]
      unfold dg
      rw [← hb]
      by_cases h : 48 ≤ byt s.data.toList i ∧ byt s.data.toList i ≤ 57
      · rw [if_pos (by omega), if_pos (by omega), if_pos h, w64 (by omega) (by omega), show (i : Int) + 1 = ((i + 1 : Nat) : Int) by omega, show k + (m + 1) = k + m + 1 by omega, digits_l0 s hs k m (i + 1) (by omega) (by omega)]
        exact congrArg some (by omega)
      · rw [if_neg h]
        by_cases h3 : 48 ≤ byt s.data.toList i
        · rw [if_pos (by omega), if_neg (by omega)]; rfl
        · rw [if_neg (by omega)]; rfl
/-- What an integer's literal at the front is: the sign's place, how many digits, their number. -/
def intR (s : ByteArray) (at_ cnt n : Nat) : Int × Int × ByteArray × ByteArray × Int :=
  if cnt = 0 then (0, 0, ⟨#[]⟩, ⟨#[]⟩, 3)
  else if byt s.data.toList at_ = 48 ∧ (1 < cnt ∨ at_ = 1) then (0, 0, ⟨#[]⟩, ⟨#[]⟩, 3)
  else if 16 < cnt ∨ 9007199254740991 < n then (0, 0, ⟨#[]⟩, ⟨#[]⟩, 2)
  else (1, if at_ = 1 then -(n : Int) else (n : Int), ⟨#[]⟩, s.extract (at_ + cnt) s.size, 0)
/-- Is there a sign? -/
def sg (s : ByteArray) : Nat := if byt s.data.toList 0 = 45 then 1 else 0
theorem pre_one (s : ByteArray) (hz : s.size ≠ 0) (c : UInt8) : preB s ⟨#[c]⟩ = true ↔ byt s.data.toList 0 = c.toNat := by
  unfold preB
  have z : (⟨#[c]⟩ : ByteArray).size = 1 := rfl
  rw [z, if_pos (by omega), beq_iff_eq, ByteArray.toList_eq, ByteArray.toList_eq, ByteArray.data_extract, Array.toList_extract]
  have e : (s.data.toList.extract 0 1) = s.data.toList.take 1 := by simp [List.extract]
  rw [e]
  have hl : s.data.toList.length = s.size := data_length s
  obtain ⟨b, hd, hb⟩ := drop_at s.data.toList 0 (by omega)
  rw [List.drop_zero] at hd
  rw [hb]
  rw [hd]
  show [b] = [c] ↔ _
  constructor
  · intro h; rw [List.cons.inj h |>.1]
  · intro h; rw [UInt8.toNat_inj.1 h]
theorem trim_q (s : ByteArray) (hz : s.size ≠ 0) : strings_TrimPrefix.f s (⟨#[45]⟩ : ByteArray) = some (s.extract (sg s) s.size) := by
  unfold strings_TrimPrefix.f stringslite_TrimPrefix.f sg
  rw [pre_l]
  have z : (⟨#[45]⟩ : ByteArray).size = 1 := rfl
  have hp := pre_one s hz 45
  simp only [Option.bind_some, z]
  by_cases h : byt s.data.toList 0 = 45
  · rw [if_pos (hp.2 h), if_pos (by omega), if_pos (by omega), if_pos h]; rfl
  · rw [if_neg (fun x => h (hp.1 x)), if_neg h]
    have : s.extract 0 s.size = s := ByteArray.extract_zero_size
    rw [this]; rfl
theorem atoi_at (s : ByteArray) (c : Nat) (hc : c = dg (s.data.toList.drop (sg s))) (h1 : 1 ≤ c) (h16 : c ≤ 16) :
    strconv_Atoi.f (s.extract 0 (sg s + c)) = some ((if sg s = 1 then -((nv 0 ((s.data.toList.drop (sg s)).take c) : Nat) : Int) else ((nv 0 ((s.data.toList.drop (sg s)).take c) : Nat) : Int)), none) := by
  have hl : s.data.toList.length = s.size := data_length s
  have hd := dg_le (s.data.toList.drop (sg s))
  rw [← hc, List.length_drop] at hd
  have hsg : sg s ≤ 1 := by unfold sg; split <;> omega
  have hsz : (s.extract 0 (sg s + c)).size = sg s + c := by rw [ByteArray.size_extract]; omega
  have hto : (s.extract 0 (sg s + c)).data.toList = s.data.toList.take (sg s + c) := by
    rw [ByteArray.data_extract, Array.toList_extract]; simp [List.extract]
  unfold strconv_Atoi.f
  rw [if_pos (by omega), hto]
  have dn : ∀ r : List UInt8, r = (s.data.toList.drop (sg s)).take c → decNat r = some (nv 0 ((s.data.toList.drop (sg s)).take c)) := by
    intro r hr
    subst hr
    unfold decNat
    rw [if_neg (by
      intro h
      rw [List.isEmpty_iff] at h
      have := congrArg List.length h
      rw [List.length_take, List.length_drop, List.length_nil] at this
      omega)]
    have := dec_nv (s.data.toList.drop (sg s)) 0
    rw [← hc] at this
    exact this
  by_cases h : byt s.data.toList 0 = 45
  · have e1 : sg s = 1 := by unfold sg; rw [if_pos h]
    obtain ⟨b, hb, hb2⟩ := drop_at s.data.toList 0 (by omega)
    rw [List.drop_zero] at hb
    have e : s.data.toList.take (sg s + c) = b :: (s.data.toList.drop (sg s)).take c := by
      rw [e1, Nat.add_comm, hb, List.take_succ_cons]; rfl
    have hb45 : (b == 45) = true := by rw [beq_iff_eq, ← UInt8.toNat_inj, ← hb2, h]; rfl
    rw [e]
    unfold atoi
    simp only [hb45, if_true]
    rw [dn _ rfl, if_pos e1]; rfl
  · have e1 : sg s = 0 := by unfold sg; rw [if_neg h]
    have e : s.data.toList.take (sg s + c) = (s.data.toList.drop (sg s)).take c := by rw [e1, Nat.zero_add, List.drop_zero]
    obtain ⟨b, hb, hb2⟩ := drop_at s.data.toList 0 (by omega)
    rw [List.drop_zero] at hb
    rw [e]
    have dn' := dn _ rfl
    have hdig : 48 ≤ b.toNat ∧ b.toNat ≤ 57 := by
      rw [e1, List.drop_zero, hb] at hc
      by_cases hh : 48 ≤ b.toNat ∧ b.toNat ≤ 57
      · exact hh
      · rw [dg_neg b _ hh] at hc; omega
    obtain ⟨c', rfl⟩ : ∃ q, c = q + 1 := ⟨c - 1, by omega⟩
    have e2 : (s.data.toList.drop (sg s)).take (c' + 1) = b :: (s.data.toList.drop 1).take c' := by
      rw [e1, List.drop_zero]
      conv => lhs; rw [hb]
      rw [List.take_succ_cons]
    rw [e2] at dn' ⊢
    have hb45 : (b == 45) = false := by rw [beq_eq_false_iff_ne]; intro hx; rw [hx] at hdig; exact absurd hdig.1 (by decide)
    have hb43 : (b == 43) = false := by rw [beq_eq_false_iff_ne]; intro hx; rw [hx] at hdig; exact absurd hdig.1 (by decide)
    unfold atoi
    simp only [hb45, hb43, Bool.false_eq_true, if_false]
    rw [dn', if_neg (by omega)]; rfl
theorem int_q (s : ByteArray) (hs : s.size < 1000000) (hz : s.size ≠ 0) (k nF : Nat) (hn : dg (s.data.toList.drop (sg s)) ≤ 16 → nF = nv 0 ((s.data.toList.drop (sg s)).take (dg (s.data.toList.drop (sg s))))) :
    value_integer.f (k + s.size + 2) s = some (intR s (sg s) (dg (s.data.toList.drop (sg s))) nF) := by
  have hl : s.data.toList.length = s.size := data_length s
  have hsg : sg s ≤ 1 := by unfold sg; split <;> omega
  have hd := dg_le (s.data.toList.drop (sg s))
  rw [List.length_drop] at hd
  have htl : (s.extract (sg s) s.size).data.toList = s.data.toList.drop (sg s) := extract_toList s (sg s)
  have hts : (s.extract (sg s) s.size).size = s.size - sg s := by rw [ByteArray.size_extract]; omega
  unfold value_integer.f
  rw [trim_q s hz]
  simp only [Option.bind_some]
  have dl := digits_l0 (s.extract (sg s) s.size) (by omega) (k + sg s + 1) (s.size - sg s) 0 (by omega) (by omega)
  rw [List.drop_zero, htl, show k + sg s + 1 + (s.size - sg s) + 1 = k + s.size + 2 by omega, Nat.zero_add] at dl
  unfold value_digits.f
  rw [show ((0 : Nat) : Int) = 0 from rfl] at dl
  rw [dl]
  simp only [Option.bind_some]
  rw [hts, w64 (x := (s.size : Int) - ((s.size - sg s : Nat) : Int)) (by omega) (by omega), w64 (by omega) (by omega)]
  have b0 : bt (s.extract (sg s) s.size) 0 = byt s.data.toList (sg s) := by
    have := bt_byt (s.extract (sg s) s.size) 0
    rw [this, htl]
    show ((byt (s.data.toList.drop (sg s)) 0 : Nat) : Int) = _
    unfold byt
    rw [List.getD_eq_getElem?_getD, List.getD_eq_getElem?_getD, List.getElem?_drop]; rfl
  rw [b0]
  generalize hc : dg (s.data.toList.drop (sg s)) = c at *
  rw [show ((s.size : Int) - ((s.size - sg s : Nat) : Int) + (c : Int)) = ((sg s + c : Nat) : Int) by omega]
  have tr : value_integer.j0 (k + s.size + 2) s (c : Int) ((sg s + c : Nat) : Int) true = some (0, 0, ⟨#[]⟩, ⟨#[]⟩, 3) := by
    rw [value_integer.j0, if_pos rfl]
  have fl : ∀ b : Bool, b = false → 1 ≤ c → value_integer.j0 (k + s.size + 2) s (c : Int) ((sg s + c : Nat) : Int) b = some (if 16 < c ∨ 9007199254740991 < nF then (0, 0, ⟨#[]⟩, ⟨#[]⟩, 2) else (1, if sg s = 1 then -(nF : Int) else (nF : Int), ⟨#[]⟩, s.extract (sg s + c) s.size, 0)) := by
    intro b hb h1
    subst hb
    rw [value_integer.j0]
    simp only [Bool.false_eq_true, if_false]
    by_cases h2 : 16 < c
    · rw [if_pos (by omega), if_pos (.inl h2)]
    rw [if_neg (by omega), if_pos (by omega), if_pos (by omega), Int.toNat_natCast, atoi_at s c hc.symm h1 (by omega)]
    rw [← hn (by omega)]
    simp only [Option.bind_some]
    by_cases h3 : sg s = 1
    · simp only [h3, if_true]
      by_cases h4 : 9007199254740991 < nF
      · rw [if_neg (by omega), if_pos (by omega), if_pos (.inr h4)]
      · rw [if_neg (by omega), if_neg (by omega), if_neg (by omega)]
    · simp only [h3, if_false]
      by_cases h4 : 9007199254740991 < nF
      · rw [if_pos (by omega), if_pos (.inr h4)]
      · rw [if_neg (by omega), if_neg (by omega), if_neg (by omega)]
  unfold intR
  by_cases h0 : c = 0
  · rw [if_pos (by omega), tr, if_pos h0]
  rw [if_neg (by omega), if_neg h0, if_pos (by omega)]
  by_cases h1 : byt s.data.toList (sg s) = 48
  · rw [if_pos (by omega)]
    by_cases h2 : 1 < c
    · rw [if_pos (by omega), tr, if_pos ⟨h1, .inl h2⟩]
    · rw [if_neg (by omega)]
      by_cases h3 : sg s = 1
      · rw [show decide (((s.size - sg s : Nat) : Int) < (s.size : Int)) = true from decide_eq_true (by omega), tr, if_pos ⟨h1, .inr h3⟩]
      · rw [fl _ (decide_eq_false (by omega)) (by omega), if_neg (show ¬ (byt s.data.toList (sg s) = 48 ∧ (1 < c ∨ sg s = 1)) by omega)]
  · rw [if_neg (by omega), fl _ rfl (by omega), if_neg (show ¬ (byt s.data.toList (sg s) = 48 ∧ (1 < c ∨ sg s = 1)) from fun z => h1 z.1)]
end Go.Proofs.YtoajlmmkkcelgaaDoor.U8
namespace Go.Proofs.YtoajlmmkkcelgaaDoor.U8
open Go.RowKit Go.Proofs.YtoajlmmkkcelgaaDoor.A Go.Proofs.YtoajlmmkkcelgaaDoorW.PrintWords Go.Proofs.YtoajlmmkkcelgaaDoorW.PrintLast Go.Lib
set_option linter.unusedVariables false
set_option linter.unusedSimpArgs false
def hexV (c : Nat) : Int := if 48 ≤ c ∧ c ≤ 57 then (c : Int) - 48 else if 97 ≤ c ∧ c ≤ 102 then (c : Int) - 87 else -1
theorem hexV_lt (c : Nat) : -1 ≤ hexV c ∧ hexV c < 16 := by
  unfold hexV
  repeat' split
  all_goals omega
theorem digit_q (c : Nat) (h : c < 256) : value_digit.f (c : Int) = some (hexV c) := by
  have all : ∀ n : Fin 256, value_digit.f ((n.val : Nat) : Int) = some (hexV n.val) := by decide +kernel
  exact all ⟨c, h⟩
theorem digit_r (c : Nat) (h : c < 256) (k : Nat) : caduceusref03_digit.f (k + 1) (c : Int) = some (hexV c) := by
  have all : ∀ n : Fin 256, caduceusref03_digit.f 1 ((n.val : Nat) : Int) = some (hexV n.val) := by decide +kernel
  exact at_rounds (fun k => caduceusref03_digit.mono (c : Int) k) (show 1 ≤ k + 1 by omega) (all ⟨c, h⟩)
theorem or16 (a b : Int) (ha : 0 ≤ a ∧ a < 16) (hb : 0 ≤ b ∧ b < 16) : Go.bits .or .i64 (wrap64 (a * 16)) b = 16 * a + b := by
  have all : ∀ x y : Fin 16, Go.bits .or .i64 (((x.val : Nat) : Int) * 16) ((y.val : Nat) : Int) = 16 * ((x.val : Nat) : Int) + ((y.val : Nat) : Int) := by decide +kernel
  have := all ⟨a.toNat, by omega⟩ ⟨b.toNat, by omega⟩
  simp only at this
  rw [Int.toNat_of_nonneg ha.1, Int.toNat_of_nonneg hb.1] at this
  rw [w64 (by omega) (by omega), this]
theorem baext {a b : ByteArray} (h : a.data.toList = b.data.toList) : a = b := by
  obtain ⟨⟨a⟩⟩ := a
  obtain ⟨⟨b⟩⟩ := b
  simp only at h
  rw [h]
theorem ext_ext (s : ByteArray) (i j : Nat) : (s.extract i s.size).extract j (s.extract i s.size).size = s.extract (i + j) s.size := by
  apply baext
  rw [extract_toList, extract_toList, extract_toList, List.drop_drop]
theorem bt_ext (s : ByteArray) (i j : Nat) : bt (s.extract i s.size) (j : Int) = (byt s.data.toList (i + j) : Int) := by
  rw [btq, extract_toList, byt_drop]
theorem wa1 (i : Nat) (h : i < 1000000) : wrap64 ((i : Int) + 1) = ((i + 1 : Nat) : Int) := by rw [w64 (by omega) (by omega)]; omega
theorem wa2 (i : Nat) (h : i < 1000000) : wrap64 ((i : Int) + 2) = ((i + 2 : Nat) : Int) := by rw [w64 (by omega) (by omega)]; omega
theorem bt_ext0 (s : ByteArray) (i : Nat) : bt (s.extract i s.size) 0 = (byt s.data.toList i : Int) := bt_ext s i 0
theorem bt_ext1 (s : ByteArray) (i : Nat) : bt (s.extract i s.size) 1 = (byt s.data.toList (i + 1) : Int) := bt_ext s i 1
theorem hx_j2q (q : Nat) (y : ByteArray) (z : List Int) : value_bytes.j2 (q + 1) y z true = some (0, 0, ⟨#[]⟩, ⟨#[]⟩, 3) := by rw [value_bytes.j2, if_pos rfl]
theorem hx_j2r (q : Nat) (y : ByteArray) (z : List Int) (j : Int) : caduceusref03_hexes.j2 (q + 1) y z j true = some (0, 0, ⟨#[]⟩, ⟨#[]⟩, 3) := by rw [caduceusref03_hexes.j2, if_pos rfl]
/-- What both make of a pair of digits. -/
theorem hx_pair0 (s : ByteArray) (i k : Nat) (xs : List Int) (a b : Int) (hs : s.size < 1000000) (hl : i + 2 ≤ s.size) (hx : xs.length ≤ i) (a0 : 0 ≤ a ∧ a < 16) (b0 : 0 ≤ b ∧ b < 16)
    (qa : value_digit.f ((byt s.data.toList i : Nat) : Int) = some a) (qb : value_digit.f ((byt s.data.toList (i + 1) : Nat) : Int) = some b)
    (ra : ∀ k, caduceusref03_digit.f (k + 1) ((byt s.data.toList i : Nat) : Int) = some a) (rb : ∀ k, caduceusref03_digit.f (k + 1) ((byt s.data.toList (i + 1) : Nat) : Int) = some b) :
    value_bytes.j2 (k + 2) (s.extract i s.size) xs false = value_bytes.l0 (k + 1) (s.extract (i + 2) s.size) (xs ++ [(16 * a + b) % 256])
    ∧ caduceusref03_hexes.j2 (k + 2) s xs (i : Int) false = caduceusref03_hexes.l0 (k + 1) s (xs ++ [(16 * a + b) % 256]) ((i + 2 : Nat) : Int) := by
  have hz : (s.extract i s.size).size = s.size - i := by rw [ByteArray.size_extract]; omega
  constructor
  · rw [show k + 2 = k + 1 + 1 by omega, value_bytes.j2]
    simp only [Bool.false_eq_true, if_false]
    rw [if_pos (by omega), bt_ext0, qa, Option.bind_some]
    rw [if_pos (by omega), bt_ext1, qb, Option.bind_some]
    rw [if_pos (by omega), if_pos (by omega), ext_ext, or16 _ _ a0 b0]
  · rw [show k + 2 = k + 1 + 1 by omega, caduceusref03_hexes.j2]
    simp only [Bool.false_eq_true, if_false]
    rw [if_pos (by omega), if_pos (by omega), btq s i, ra, Option.bind_some]
    rw [wa1 i (by omega), if_pos (by omega), if_pos (by omega), btq s (i + 1), rb, Option.bind_some]
    rw [if_pos (by omega), wa2 i (by omega), w64 (x := 16 * a) (by omega) (by omega), w64 (by omega) (by omega)]
theorem hx_pair (s : ByteArray) (i k : Nat) (xs : List Int) (hs : s.size < 1000000) (hl : i + 2 ≤ s.size) (hx : xs.length ≤ i) (v0 : 0 ≤ hexV (byt s.data.toList i)) (v1 : 0 ≤ hexV (byt s.data.toList (i + 1))) :
    value_bytes.j2 (k + 2) (s.extract i s.size) xs false = value_bytes.l0 (k + 1) (s.extract (i + 2) s.size) (xs ++ [(16 * hexV (byt s.data.toList i) + hexV (byt s.data.toList (i + 1))) % 256])
    ∧ caduceusref03_hexes.j2 (k + 2) s xs (i : Int) false = caduceusref03_hexes.l0 (k + 1) s (xs ++ [(16 * hexV (byt s.data.toList i) + hexV (byt s.data.toList (i + 1))) % 256]) ((i + 2 : Nat) : Int) :=
  hx_pair0 s i k xs _ _ hs hl hx ⟨v0, (hexV_lt _).2⟩ ⟨v1, (hexV_lt _).2⟩ (digit_q _ (byt_lt _ _)) (digit_q _ (byt_lt _ _)) (digit_r _ (byt_lt _ _)) (digit_r _ (byt_lt _ _))
theorem hx_end (s : ByteArray) (k : Nat) (xs : List Int) (i : Nat) (hi : i = s.size) :
    value_bytes.l0 (k + 2) (s.extract i s.size) xs = some (0, 0, ⟨#[]⟩, ⟨#[]⟩, 3) ∧ caduceusref03_hexes.l0 (k + 2) s xs (i : Int) = some (0, 0, ⟨#[]⟩, ⟨#[]⟩, 3) := by
  have hz : (s.extract i s.size).size = 0 := by rw [ByteArray.size_extract]; omega
  rw [value_bytes.l0, caduceusref03_hexes.l0, if_pos ((toList_nil _).2 hz), if_neg (by omega), value_bytes.j1, caduceusref03_hexes.j1]
  simp only [Bool.false_eq_true, if_false]
  rw [if_pos ((toList_nil _).2 hz), if_pos (by omega)]
  exact ⟨rfl, rfl⟩
theorem hx_ne (s : ByteArray) (i : Nat) (h : i < s.size) : ¬ (s.extract i s.size).toList = [] := fun e => by
  have := (toList_nil _).1 e
  rw [ByteArray.size_extract] at this
  omega
theorem hx_quote (s : ByteArray) (k : Nat) (xs : List Int) (i : Nat) (hs : s.size < 1000000) (hi : i < s.size) (hq : byt s.data.toList i = 39) :
    value_bytes.l0 (k + 2) (s.extract i s.size) xs = some (if xs.length > 200 then (0, 0, ⟨#[]⟩, ⟨#[]⟩, 2) else (4, 0, strOfNums xs, s.extract (i + 1) s.size, 0)) ∧ caduceusref03_hexes.l0 (k + 2) s xs (i : Int) = some (if xs.length > 200 then (0, 0, ⟨#[]⟩, ⟨#[]⟩, 2) else (4, 0, strOfNums xs, s.extract (i + 1) s.size, 0)) := by
  have hz : (s.extract i s.size).size = s.size - i := by rw [ByteArray.size_extract]; omega
  generalize hR : (if xs.length > 200 then ((0, 0, ⟨#[]⟩, ⟨#[]⟩, 2) : Int × Int × ByteArray × ByteArray × Int) else (4, 0, strOfNums xs, s.extract (i + 1) s.size, 0)) = R
  rw [value_bytes.l0, caduceusref03_hexes.l0, if_neg (hx_ne s i hi), if_pos (by omega), if_pos (by omega), if_pos (by omega), bt_ext0, btq s i, hq, value_bytes.j1, caduceusref03_hexes.j1]
  rw [show (((39 : Nat) : Int) != 39) = false from rfl]
  simp only [Bool.false_eq_true, if_false]
  rw [if_neg (hx_ne s i hi), if_neg (show ¬ ((i : Int) ≥ (s.size : Int)) by omega)]
  by_cases h200 : xs.length > 200
  · have h2 : (xs.length : Int) > 200 := by omega
    rw [if_pos h2, if_pos h2, ← hR, if_pos h200]
    exact ⟨rfl, rfl⟩
  · have h2 : ¬ (xs.length : Int) > 200 := by omega
    rw [if_neg h2, if_neg h2, if_pos (by omega), wa1 i (by omega), if_pos (by omega), if_pos (by omega), Int.toNat_natCast, ext_ext, ← hR, if_neg h200]
    exact ⟨rfl, rfl⟩
theorem hx_bad (s : ByteArray) (k : Nat) (xs : List Int) (i : Nat) (hs : s.size < 1000000) (hi : i < s.size) (hq : byt s.data.toList i ≠ 39)
    (hb : s.size < i + 2 ∨ hexV (byt s.data.toList i) < 0 ∨ hexV (byt s.data.toList (i + 1)) < 0) :
    value_bytes.l0 (k + 4) (s.extract i s.size) xs = some (0, 0, ⟨#[]⟩, ⟨#[]⟩, 3) ∧ caduceusref03_hexes.l0 (k + 4) s xs (i : Int) = some (0, 0, ⟨#[]⟩, ⟨#[]⟩, 3) := by
  have hz : (s.extract i s.size).size = s.size - i := by rw [ByteArray.size_extract]; omega
  have g0 := byt_lt s.data.toList i
  have g1 := byt_lt s.data.toList (i + 1)
  rw [show k + 4 = k + 3 + 1 by omega, value_bytes.l0, caduceusref03_hexes.l0, if_neg (hx_ne s i hi), if_pos (by omega), if_pos (by omega), if_pos (by omega), bt_ext0, btq s i, show k + 3 = k + 2 + 1 by omega, value_bytes.j1, caduceusref03_hexes.j1]
  rw [show (((byt s.data.toList i : Nat) : Int) != 39) = true by rw [bne_iff_ne]; omega]
  simp only [if_true]
  rw [wa1 i (by omega), bt_ext0, bt_ext1, btq s i, btq s (i + 1), digit_q _ g0, digit_q _ g1, show k + 2 = k + 1 + 1 by omega, digit_r _ g0, digit_r _ g1, hx_j2q, hx_j2r]
  simp only [Option.bind_some]
  by_cases hl : s.size < i + 2
  · rw [if_pos (by omega), if_pos (by omega)]
    exact ⟨rfl, rfl⟩
  by_cases d0 : hexV (byt s.data.toList i) < 0
  · rw [if_neg (by omega), if_pos (by omega), if_pos d0, if_neg (by omega), if_pos (by omega), if_pos (by omega), if_pos d0]
    exact ⟨rfl, rfl⟩
  · rw [if_neg (by omega), if_pos (by omega), if_neg d0, if_pos (by omega), if_neg (by omega), if_pos (by omega), if_pos (by omega), if_neg d0, if_pos (by omega), if_pos (by omega), show decide (hexV (byt s.data.toList (i + 1)) < 0) = true from decide_eq_true (by omega), hx_j2q, hx_j2r]
    exact ⟨rfl, rfl⟩
theorem hx_on (s : ByteArray) (k : Nat) (xs : List Int) (i : Nat) (hs : s.size < 1000000) (hl : i + 2 ≤ s.size) (hx : xs.length ≤ i) (hq : byt s.data.toList i ≠ 39)
    (v0 : 0 ≤ hexV (byt s.data.toList i)) (v1 : 0 ≤ hexV (byt s.data.toList (i + 1))) :
    value_bytes.l0 (k + 4) (s.extract i s.size) xs = value_bytes.l0 (k + 1) (s.extract (i + 2) s.size) (xs ++ [(16 * hexV (byt s.data.toList i) + hexV (byt s.data.toList (i + 1))) % 256])
    ∧ caduceusref03_hexes.l0 (k + 4) s xs (i : Int) = caduceusref03_hexes.l0 (k + 1) s (xs ++ [(16 * hexV (byt s.data.toList i) + hexV (byt s.data.toList (i + 1))) % 256]) ((i + 2 : Nat) : Int) := by
  have hz : (s.extract i s.size).size = s.size - i := by rw [ByteArray.size_extract]; omega
  have g0 := byt_lt s.data.toList i
  have g1 := byt_lt s.data.toList (i + 1)
  obtain ⟨p1, p2⟩ := hx_pair s i k xs hs hl hx v0 v1
  rw [← p1, ← p2]
  rw [show k + 4 = k + 3 + 1 by omega, value_bytes.l0, caduceusref03_hexes.l0, if_neg (hx_ne s i (by omega)), if_pos (by omega), if_pos (by omega), if_pos (by omega), bt_ext0, btq s i, show k + 3 = k + 2 + 1 by omega, value_bytes.j1, caduceusref03_hexes.j1]
  rw [show (((byt s.data.toList i : Nat) : Int) != 39) = true by rw [bne_iff_ne]; omega]
  simp only [if_true]
  rw [wa1 i (by omega), bt_ext0, bt_ext1, btq s i, btq s (i + 1), digit_q _ g0, digit_q _ g1, show k + 2 = k + 1 + 1 by omega, digit_r _ g0, digit_r _ g1]
  simp only [Option.bind_some]
  rw [if_neg (by omega), if_pos (by omega), if_neg (by omega), if_pos (by omega), if_neg (by omega), if_pos (by omega), if_pos (by omega), if_neg (by omega), if_pos (by omega), if_pos (by omega), show decide (hexV (byt s.data.toList (i + 1)) < 0) = false from decide_eq_false (by omega)]
  exact ⟨rfl, rfl⟩
/-- The bytes from place i on; so far they are xs. -/
def hexGo (s : ByteArray) : Nat → Nat → List Int → Int × Int × ByteArray × ByteArray × Int
  | 0, _, _ => (0, 0, ⟨#[]⟩, ⟨#[]⟩, 3)
  | m + 1, i, xs =>
    if s.size ≤ i then (0, 0, ⟨#[]⟩, ⟨#[]⟩, 3)
    else if byt s.data.toList i = 39 then (if xs.length > 200 then (0, 0, ⟨#[]⟩, ⟨#[]⟩, 2) else (4, 0, strOfNums xs, s.extract (i + 1) s.size, 0))
    else if s.size < i + 2 ∨ hexV (byt s.data.toList i) < 0 ∨ hexV (byt s.data.toList (i + 1)) < 0 then (0, 0, ⟨#[]⟩, ⟨#[]⟩, 3)
    else hexGo s m (i + 2) (xs ++ [(16 * hexV (byt s.data.toList i) + hexV (byt s.data.toList (i + 1))) % 256])
theorem hexes_l0 (s : ByteArray) (hs : s.size < 1000000) (k : Nat) : ∀ (m i : Nat) (xs : List Int), i ≤ s.size → s.size - i ≤ m → xs.length ≤ i →
    value_bytes.l0 (k + 3 * m + 4) (s.extract i s.size) xs = some (hexGo s m i xs) ∧ caduceusref03_hexes.l0 (k + 3 * m + 4) s xs (i : Int) = some (hexGo s m i xs)
  | 0, i, xs, h1, h2, h5 => hx_end s (k + 3 * 0 + 2) xs i (by omega)
  | m + 1, i, xs, h1, h2, h5 => by
    rw [hexGo]
    by_cases hi : i = s.size
    · rw [if_pos (show s.size ≤ i by omega)]
      exact hx_end s (k + 3 * (m + 1) + 2) xs i hi
    rw [if_neg (show ¬ s.size ≤ i by omega)]
    by_cases hq : byt s.data.toList i = 39
    · rw [if_pos hq]
      exact hx_quote s (k + 3 * (m + 1) + 2) xs i hs (by omega) hq
    rw [if_neg hq]
    by_cases hb : s.size < i + 2 ∨ hexV (byt s.data.toList i) < 0 ∨ hexV (byt s.data.toList (i + 1)) < 0
    · rw [if_pos hb]
      exact hx_bad s (k + 3 * (m + 1)) xs i hs (by omega) hq hb
    · rw [if_neg hb]
      obtain ⟨e1, e2⟩ := hx_on s (k + 3 * (m + 1)) xs i hs (by omega) h5 hq (by omega) (by omega)
      obtain ⟨a, b⟩ := hexes_l0 s hs k m (i + 2) (xs ++ [(16 * hexV (byt s.data.toList i) + hexV (byt s.data.toList (i + 1))) % 256]) (by omega) (by omega) (by rw [List.length_append]; show xs.length + 1 ≤ i + 2; omega)
      refine ⟨?_, ?_⟩
      · rw [e1, show k + 3 * (m + 1) + 1 = k + 3 * m + 4 by omega]; exact a
      · rw [e2, show k + 3 * (m + 1) + 1 = k + 3 * m + 4 by omega]; exact b
theorem hexes_go (s : ByteArray) (hs : s.size < 1000000) (h2 : 2 ≤ s.size) (k : Nat) : value_bytes.f (k + 3 * s.size + 4) s = some (hexGo s s.size 2 []) ∧ caduceusref03_hexes.f (k + 3 * s.size + 4) s = some (hexGo s s.size 2 []) := by
  unfold value_bytes.f caduceusref03_hexes.f
  rw [if_pos (by omega)]
  exact hexes_l0 s hs k s.size 2 [] h2 (by omega) (by simp)
end Go.Proofs.YtoajlmmkkcelgaaDoor.U8
namespace Go.Proofs.YtoajlmmkkcelgaaDoor.U8
open Go.RowKit Go.Proofs.YtoajlmmkkcelgaaDoor.A Go.Proofs.YtoajlmmkkcelgaaDoorW.PrintWords Go.Proofs.YtoajlmmkkcelgaaDoorW.PrintLast Go.Lib
set_option linter.unusedVariables false
set_option linter.unusedSimpArgs false
/-- Is a rune written with a backslash? -/
def isCtl (c : Int) : Bool := decide (0 ≤ c ∧ c < 32) || c == 34 || c == 92 || c == 127
theorem enc_byte0 (c : Int) (h : 128 ≤ c) : 128 ≤ byt (Utf8.encode c).data.toList 0 := by
  unfold Utf8.encode
  have hb : ∀ n : Nat, 128 ≤ n → n < 256 → 128 ≤ (UInt8.ofNat n).toNat := fun n h1 h2 => by
    rw [UInt8.toNat_ofNat']; omega
  simp only
  generalize hc : (if Utf8.valid c = true then c.toNat else Utf8.runeError) = q
  have hq : 128 ≤ q ∧ q ≤ 1114111 := by
    rw [← hc]
    split
    · rename_i hv
      unfold Utf8.valid at hv
      simp only [Bool.or_eq_true, Bool.and_eq_true, decide_eq_true_eq] at hv
      omega
    · unfold Utf8.runeError; omega
  rw [if_neg (by omega)]
  unfold byt
  split
  · exact hb _ (by omega) (by omega)
  split
  · exact hb _ (by omega) (by omega)
  · exact hb _ (by omega) (by omega)
theorem escB_byte0 (c : Int) (h0 : 0 ≤ c) (h : byt (escB c).data.toList 0 = 92) : isCtl c = true := by
  by_cases h128 : c < 128
  · have all : ∀ n : Fin 128, byt (escB (n.val : Int)).data.toList 0 = 92 → isCtl (n.val : Int) = true := by decide +kernel
    have := all ⟨c.toNat, by omega⟩
    simp only [Int.toNat_of_nonneg h0] at this
    exact this h
  · have := enc_byte0 c (by omega)
    unfold escB at h
    rw [if_neg (by omega), if_neg (by omega), if_neg (by omega), if_neg (by omega), if_neg (by omega)] at h
    omega
theorem isCtl_lt (c : Int) (h : isCtl c = true) : 0 ≤ c ∧ c < 128 := by
  unfold isCtl at h
  simp only [Bool.or_eq_true, decide_eq_true_eq, beq_iff_eq] at h
  omega
theorem isCtl_byte0 (c : Int) (h : isCtl c = true) : byt (escB c).data.toList 0 = 92 := by
  have hr := isCtl_lt c h
  have all : ∀ n : Fin 128, isCtl (n.val : Int) = true → byt (escB (n.val : Int)).data.toList 0 = 92 := by decide +kernel
  have := all ⟨c.toNat, by omega⟩
  simp only [Int.toNat_of_nonneg hr.1] at this
  exact this h
/-- A prefix, byte for byte. -/
theorem pre_iff (s p : ByteArray) : preB s p = true ↔ p.size ≤ s.size ∧ s.data.toList.take p.size = p.data.toList := by
  unfold preB
  by_cases h : p.size ≤ s.size
  · rw [if_pos h, beq_iff_eq]
    have e : (s.extract 0 p.size).toList = s.data.toList.take p.size := by
      rw [ByteArray.toList_eq, ByteArray.data_extract, Array.toList_extract]
      simp
    rw [e, ByteArray.toList_eq]
    exact ⟨fun x => ⟨h, x⟩, fun x => x.2⟩
  · rw [if_neg h]
    simp [h]
theorem byt_take (l : List UInt8) (n i : Nat) (h : i < n) : byt (l.take n) i = byt l i := by
  unfold byt
  rw [List.getD_eq_getElem?_getD, List.getD_eq_getElem?_getD, List.getElem?_take_of_lt h]
theorem pre_at {s p : ByteArray} (h : preB s p = true) (i : Nat) (hi : i < p.size) : byt s.data.toList i = byt p.data.toList i := by
  obtain ⟨h1, h2⟩ := (pre_iff s p).1 h
  rw [← h2, byt_take _ _ _ hi]
/-- No rune's writing is the beginning of another one's. -/
theorem ctl_once (s : ByteArray) (a b : Int) (ha : isCtl a = true) (hb : isCtl b = true) (pa : preB s (escB a) = true) (pb : preB s (escB b) = true) : a = b := by
  have ra := isCtl_lt a ha
  have rb := isCtl_lt b hb
  have all : ∀ x y : Fin 128, isCtl (x.val : Int) = true → isCtl (y.val : Int) = true → (escB (x.val : Int)).data.toList.take (escB (y.val : Int)).size = (escB (y.val : Int)).data.toList.take (escB (x.val : Int)).size → x = y := by decide +kernel
  have := all ⟨a.toNat, by omega⟩ ⟨b.toNat, by omega⟩
  simp only [Int.toNat_of_nonneg ra.1, Int.toNat_of_nonneg rb.1] at this
  have e := this ha hb (by
    rw [← ((pre_iff _ _).1 pa).2, ← ((pre_iff _ _).1 pb).2, List.take_take, List.take_take, Nat.min_comm])
  have := congrArg Fin.val e
  simp only at this
  omega
/-- The rune whose writing, with a backslash, stands at the front. -/
def ctlF (s : ByteArray) : Nat → Nat → Option Nat
  | 0, _ => none
  | m + 1, c => if isCtl c = true ∧ preB s (escB c) = true then some c else ctlF s m (c + 1)
theorem ctlF_some (s : ByteArray) : ∀ m c r, ctlF s m c = some r → c ≤ r ∧ r < c + m ∧ isCtl r = true ∧ preB s (escB r) = true
  | 0, c, r, h => by simp [ctlF] at h
  | m + 1, c, r, h => by
    rw [ctlF] at h
    split at h
    · rename_i h1
      obtain rfl := Option.some.inj h
      exact ⟨by omega, by omega, h1.1, h1.2⟩
    · have := ctlF_some s m (c + 1) r h
      exact ⟨by omega, by omega, this.2.2⟩
theorem ctlF_none (s : ByteArray) : ∀ m c, ctlF s m c = none → ∀ r : Nat, c ≤ r → r < c + m → isCtl r = true → preB s (escB r) = true → False
  | 0, c, h, r, h1, h2, _, _ => by omega
  | m + 1, c, h, r, h1, h2, h3, h4 => by
    rw [ctlF] at h
    split at h
    · cases h
    · rename_i hn
      by_cases e : r = c
      · subst e; exact hn ⟨h3, h4⟩
      · exact ctlF_none s m (c + 1) h r (by omega) (by omega) h3 h4
def ctl (s : ByteArray) : Option Nat := ctlF s 128 0
theorem ctl_of (s : ByteArray) (c : Int) (h : isCtl c = true) (hp : preB s (escB c) = true) : ctl s = some c.toNat := by
  have hr := isCtl_lt c h
  cases e : ctl s with
  | none => exact absurd hp (fun hp => ctlF_none s 128 0 e c.toNat (by omega) (by omega) (by rw [Int.toNat_of_nonneg hr.1]; exact h) (by rw [Int.toNat_of_nonneg hr.1]; exact hp))
  | some r =>
    have := ctlF_some s 128 0 r e
    have e2 := ctl_once s r c this.2.2.1 h this.2.2.2 hp
    rw [← e2, Int.toNat_natCast]
theorem ctl_lt (s : ByteArray) (c : Nat) (h : ctl s = some c) : c < 128 ∧ isCtl c = true ∧ preB s (escB c) = true := by
  have := ctlF_some s 128 0 c h
  exact ⟨by omega, this.2.2⟩
-- the reference's side
theorem escB_pos (c : Int) (h : 0 ≤ c) (h2 : c < 128) : 0 < (escB c).size := by
  have all : ∀ n : Fin 128, 0 < (escB (n.val : Int)).size := by decide +kernel
  have := all ⟨c.toNat, by omega⟩
  simpa only [Int.toNat_of_nonneg h] using this
end Go.Proofs.YtoajlmmkkcelgaaDoor.U8
namespace Go.Proofs.YtoajlmmkkcelgaaDoor.U8
open Go.RowKit Go.Proofs.YtoajlmmkkcelgaaDoor.A Go.Proofs.YtoajlmmkkcelgaaDoorW.PrintWords Go.Proofs.YtoajlmmkkcelgaaDoorW.PrintLast Go.Lib
set_option linter.unusedVariables false
set_option linter.unusedSimpArgs false
theorem or4 (n b : Int) (h0 : 0 ≤ n) (h1 : n < 1000000000) (b0 : 0 ≤ b) (b1 : b < 16) : Go.bits .or .i64 (wrap64 (n * 16)) b = 16 * n + b := by
  rw [w64 (by omega) (by omega)]
  have e63 : (2 : Int) ^ 63 = 9223372036854775808 := by decide
  have e4 : (2 : Int) ^ 4 = 16 := by decide
  have h := bits_join .i64 63 (by decide) (fun n h0 h1 => by rw [e63] at h1; rw [IntKind.wrap_i64]; omega) 4 (n * 16) b (by omega) (by rw [e4]; omega) (by rw [e63]; omega) b0 (by rw [e4]; omega) (by rw [e63]; omega)
  rw [h]; omega
/-- What the digits' loop answers, whatever stands there. -/
def okR (X : Option (Int × Int)) (b : Int) : Prop := ∃ r1 r2, X = some (r1, r2) ∧ 0 ≤ r1 ∧ r1 ≤ 1114111 ∧ 0 ≤ r2 ∧ r2 ≤ b
theorem okR_no (b : Int) (h : 0 ≤ b) : okR (some (0, 0)) b := ⟨0, 0, rfl, by omega, by omega, by omega, h⟩
theorem okR_ite {c : Prop} [Decidable c] {A B : Option (Int × Int)} {b : Int} (h : c → okR A b) (k : ¬ c → okR B b) : okR (if c then A else B) b := by
  by_cases e : c
  · rw [if_pos e]; exact h e
  · rw [if_neg e]; exact k e
theorem num_done (i : Nat) (n : Int) (hi : i ≤ 6) (n0 : 0 ≤ n) (h : ¬ n > 1114111) : okR (some (wrap32 n, wrap64 ((i : Int) + 1))) 7 := by
  have w1 : wrap64 ((i : Int) + 1) = ((i + 1 : Nat) : Int) := by rw [w64 (by omega) (by omega)]; omega
  exact ⟨_, _, rfl, by unfold wrap32; omega, by unfold wrap32; omega, by rw [w1]; omega, by rw [w1]; omega⟩
theorem num_fin (s : ByteArray) (i : Nat) (n : Int) (hi : i ≤ 6) (hz : i < s.size) (n0 : 0 ≤ n) :
    okR (if (i : Int) = 0 then (some (0, 0)) else (if (i : Int) = (s.size : Int) then (some (0, 0)) else (if bt s (i : Int) = 125 then (if 0 < (s.size : Int) then (if (bt s 0) = 48 then (if (i : Int) > 1 then (some (0, 0)) else (if n > 1114111 then (some (0, 0)) else (some (wrap32 (n), wrap64 ((i : Int) + 1))))) else (if n > 1114111 then (some (0, 0)) else (some (wrap32 (n), wrap64 ((i : Int) + 1))))) else (none)) else (some (0, 0))))) 7 := by
  have no := okR_no 7 (by omega)
  have big : okR (if n > 1114111 then (some (0, 0)) else (some (wrap32 (n), wrap64 ((i : Int) + 1)))) 7 := okR_ite (fun _ => no) (fun h => num_done i n hi n0 h)
  refine okR_ite (fun _ => no) (fun _ => okR_ite (fun _ => no) (fun _ => okR_ite (fun _ => ?_) (fun _ => no)))
  rw [if_pos (by omega)]
  exact okR_ite (fun _ => okR_ite (fun _ => no) (fun _ => big)) (fun _ => big)
theorem num_end (s : ByteArray) (k i : Nat) (n : Int) (hi : i ≤ 6) (hz : i ≤ s.size) (n0 : 0 ≤ n) (hs : i = 6 ∨ i = s.size ∨ hexV (byt s.data.toList i) < 0) : okR (value_numbered.l0 (k + 1) s n (i : Int)) 7 := by
  have no := okR_no 7 (by omega)
  rw [value_numbered.l0]
  by_cases hlt : i < s.size
  · have fin := num_fin s i n hi hlt n0
    rw [if_pos (by omega)]
    by_cases h6 : i < 6
    · have v : hexV (byt s.data.toList i) < 0 := by omega
      rw [if_pos (by omega), if_pos (by omega), btq s i, digit_q _ (byt_lt _ _), Option.bind_some, if_neg (by omega), ← btq s i]
      exact fin
    · rw [if_neg (by omega), if_neg (by omega), if_neg (by omega), if_pos (by omega)]
      rw [if_neg (by omega), if_neg (by omega)] at fin
      exact fin
  · rw [if_neg (by omega)]
    exact okR_ite (fun _ => no) (fun _ => by rw [if_pos (by omega)]; exact no)
theorem num_step (u : ByteArray) (k i : Nat) (n v : Int) (hi : i < 6) (hz : i < u.size) (hv : hexV (byt u.data.toList i) = v) (v0 : 0 ≤ v) (n0 : 0 ≤ n) (n1 : n < 1000000000) :
    value_numbered.l0 (k + 1) u n (i : Int) = value_numbered.l0 k u (16 * n + v) ((i + 1 : Nat) : Int) := by
  have g := byt_lt u.data.toList i
  have w1 : wrap64 ((i : Int) + 1) = ((i + 1 : Nat) : Int) := by rw [w64 (by omega) (by omega)]; omega
  have v1 := hexV_lt (byt u.data.toList i)
  rw [value_numbered.l0, if_pos (by omega), if_pos (by omega), if_pos (by omega), btq, digit_q _ g, Option.bind_some]
  rw [hv, if_pos v0, Option.bind_some, or4 n v n0 n1 v0 (by omega), w1]
theorem num_tot (s : ByteArray) (hs : s.size < 1000000) (k : Nat) : ∀ (m i n : Nat), i + m = 6 → i ≤ s.size → n < 16 ^ i → okR (value_numbered.l0 (k + m + 1) s (n : Int) (i : Int)) 7
  | 0, i, n, hm, hz, h1 => num_end s (k + 0) i n (by omega) hz (by omega) (by omega)
  | m + 1, i, n, hm, hz, h1 => by
    by_cases hb : i = s.size ∨ hexV (byt s.data.toList i) < 0
    · exact num_end s (k + (m + 1)) i n (by omega) hz (by omega) (by omega)
    · have hp : 16 ^ i ≤ 16 ^ 6 := Nat.pow_le_pow_right (by decide) (by omega)
      have e6 : 16 ^ 6 = 16777216 := by decide
      rw [e6] at hp
      have v := hexV_lt (byt s.data.toList i)
      rw [num_step s (k + (m + 1)) i n _ (by omega) (by omega) rfl (by omega) (by omega) (by omega)]
      have e : 16 * (n : Int) + hexV (byt s.data.toList i) = ((16 * n + (hexV (byt s.data.toList i)).toNat : Nat) : Int) := by omega
      rw [e, show k + (m + 1) = k + m + 1 by omega]
      exact num_tot s hs k m (i + 1) _ (by omega) (by omega) (by rw [Nat.pow_succ]; omega)
theorem esc_tot (t : ByteArray) (ht : t.size < 1000000) (k : Nat) : okR (value_escaped.f (k + 9) t) 9 := by
  have no := okR_no 9 (by omega)
  have yes : ∀ c : Int, 0 ≤ c → c ≤ 1114111 → okR (some (c, 1)) 9 := fun c h0 h1 => ⟨c, 1, rfl, h0, h1, by omega, by omega⟩
  unfold value_escaped.f
  by_cases h0 : t.toList = ([] : List UInt8)
  · rw [if_pos h0]; exact no
  have hz : t.size ≠ 0 := fun h => h0 ((toList_nil t).2 h)
  rw [if_neg h0, if_pos (by omega)]
  have g := byt_lt t.data.toList 0
  have j1 : ∀ b, 2 ≤ t.size ∨ b = false → okR (value_escaped.j1 (k + 8) t b) 9 := by
    intro b hb
    rw [value_escaped.j1]
    cases b
    · rw [if_neg (by decide)]; exact no
    · have h2 : 2 ≤ t.size := hb.resolve_right (by decide)
      rw [if_pos rfl, if_pos (by omega)]
      unfold value_numbered.f
      obtain ⟨r1, r2, h, a1, a2, a3, a4⟩ := num_tot (t.extract 2 t.size) (by rw [ByteArray.size_extract]; omega) k 6 0 0 rfl (by omega) (by decide)
      rw [show value_numbered.l0 (k + 7) (t.extract 2 t.size) 0 0 = some (r1, r2) from h, Option.bind_some]
      have w2 : wrap64 (r2 + 2) = r2 + 2 := w64 (by omega) (by omega)
      refine okR_ite (fun _ => ?_) (fun _ => ⟨_, _, rfl, a1, a2, a3, by omega⟩)
      exact ⟨_, _, rfl, a1, a2, by rw [w2]; omega, by rw [w2]; omega⟩
  have wb : wrap32 (bt t 0) = (byt t.data.toList 0 : Int) := by
    rw [show bt t 0 = _ from btq t 0]; unfold wrap32; omega
  have j0 : ∀ b, okR (value_escaped.j0 (k + 9) t (bt t 0) b) 9 := by
    intro b
    rw [value_escaped.j0]
    cases b
    · rw [if_neg (by decide)]
      refine okR_ite (fun _ => yes 10 (by omega) (by omega)) (fun _ => okR_ite (fun _ => yes 9 (by omega) (by omega)) (fun _ => okR_ite (fun _ => yes 13 (by omega) (by omega)) (fun _ => okR_ite (fun _ => okR_ite (fun h => ?_) (fun _ => j1 _ (.inr rfl))) (fun _ => no))))
      rw [if_pos (by omega)]
      exact j1 _ (.inl (by omega))
    · rw [if_pos rfl, if_pos (by omega), wb]; exact yes _ (by omega) (by omega)
  exact okR_ite (fun _ => j0 _) (fun _ => j0 _)
theorem num_last (u : ByteArray) (k i : Nat) (n : Int) (h1 : 1 ≤ i) (hi : i < 6) (hz : i < u.size) (h125 : byt u.data.toList i = 125) (h48 : byt u.data.toList 0 = 48 → i ≤ 1) (n0 : 0 ≤ n) (n1 : n ≤ 1114111) :
    value_numbered.l0 (k + 1) u n (i : Int) = some (n, ((i + 1 : Nat) : Int)) := by
  have w1 : wrap64 ((i : Int) + 1) = ((i + 1 : Nat) : Int) := by rw [w64 (by omega) (by omega)]; omega
  have w2 : wrap32 n = n := by unfold wrap32; omega
  have b0 : bt u 0 = (byt u.data.toList 0 : Int) := btq u 0
  rw [value_numbered.l0, if_pos (by omega), if_pos (by omega), if_pos (by omega), btq, digit_q _ (byt_lt _ _), h125, b0, Option.bind_some]
  rw [if_neg (by decide), if_neg (by omega), if_neg (by omega), if_pos (show ((125 : Nat) : Int) = 125 from rfl), if_pos (by omega), w1, w2]
  by_cases c : ((byt u.data.toList 0 : Nat) : Int) = 48
  · rw [if_pos c, if_neg (by have := h48 (by omega); omega), if_neg (by omega)]
  · rw [if_neg c, if_neg (by omega)]
/-- A written rune is read. -/
theorem esc_c (s : ByteArray) (c : Int) (hc : isCtl c = true) (hp : preB s (escB c) = true) (k : Nat) :
    value_escaped.f (k + 9) (s.extract 1 s.size) = some (c, ((escB c).size : Int) - 1) := by
  have hr := isCtl_lt c hc
  have hz := ((pre_iff _ _).1 hp).1
  have at1 : ∀ j, 1 + j < (escB c).size → bt (s.extract 1 s.size) (j : Int) = (byt (escB c).data.toList (1 + j) : Int) := fun j hj => by rw [bt_ext, pre_at hp _ hj]
  have at3 : ∀ j, 3 + j < (escB c).size → byt ((s.extract 1 s.size).extract 2 (s.extract 1 s.size).size).data.toList j = byt (escB c).data.toList (3 + j) := fun j hj => by
    rw [ext_ext, extract_toList, byt_drop, pre_at hp _ hj]
  have tz : (s.extract 1 s.size).size = s.size - 1 := by rw [ByteArray.size_extract]; omega
  have uz : ((s.extract 1 s.size).extract 2 (s.extract 1 s.size).size).size = s.size - 3 := by rw [ByteArray.size_extract, tz]; omega
  have two := fun n : Fin 128 => (by decide +kernel : ∀ n : Fin 128, isCtl (n.val : Int) = true → 2 ≤ (escB (n.val : Int)).size) n
  have two' := two ⟨c.toNat, by omega⟩
  simp only [Int.toNat_of_nonneg hr.1] at two'
  have z2 := two' hc
  generalize hT : s.extract 1 s.size = t at *
  have hne : ¬ t.toList = [] := fun h => by have := (toList_nil _).1 h; omega
  have b0 := at1 0 (by omega)
  unfold value_escaped.f
  rw [if_neg hne, if_pos (by omega)]
  by_cases cA : c = 34 ∨ c = 92
  · have e : (byt (escB c).data.toList (1 + 0) : Int) = c ∧ ((escB c).size : Int) - 1 = 1 := by rcases cA with rfl | rfl <;> decide +kernel
    rw [show bt t 0 = c from b0.trans e.1, e.2]
    have j : ∀ b, b = true → value_escaped.j0 (k + 9) t c b = some (c, 1) := fun b hb => by
      rw [value_escaped.j0, if_pos hb, if_pos (by omega), show bt t 0 = c from b0.trans e.1]
      congr 2
      unfold wrap32; omega
    rcases cA with h | h
    · rw [if_pos h]; exact j _ (by rw [h]; rfl)
    · rw [if_neg (by omega)]; exact j _ (by rw [h]; rfl)
  by_cases cB : c = 9 ∨ c = 10 ∨ c = 13
  · rcases cB with rfl | rfl | rfl
    · rw [show bt t 0 = 116 from b0.trans (by decide +kernel)]
      rw [if_neg (by decide), value_escaped.j0, if_neg (by decide), if_neg (by decide), if_pos rfl]
      decide +kernel
    · rw [show bt t 0 = 110 from b0.trans (by decide +kernel)]
      rw [if_neg (by decide), value_escaped.j0, if_neg (by decide), if_pos rfl]
      decide +kernel
    · rw [show bt t 0 = 114 from b0.trans (by decide +kernel)]
      rw [if_neg (by decide), value_escaped.j0, if_neg (by decide), if_neg (by decide), if_neg (by decide), if_pos rfl]
      decide +kernel
  have hN : ∀ X : Option (Int × Int), 5 ≤ (escB c).size → byt (escB c).data.toList 1 = 117 → byt (escB c).data.toList 2 = 123 → value_numbered.l0 (k + 7) (t.extract 2 t.size) 0 0 = some (c, ((escB c).size : Int) - 3) → (if bt t 0 = 34 then value_escaped.j0 (k + 9) t (bt t 0) (bt t 0 == 34) else value_escaped.j0 (k + 9) t (bt t 0) (bt t 0 == 92)) = some (c, ((escB c).size : Int) - 1) := by
    intro _ h5 e1 e2 e3
    have b1 := at1 1 (by omega)
    have b1' : bt t 1 = 123 := b1.trans (by rw [show 1 + 1 = 2 from rfl, e2]; rfl)
    rw [show bt t 0 = 117 from b0.trans (by rw [show 1 + 0 = 1 from rfl, e1]; rfl)]
    rw [if_neg (by decide), value_escaped.j0, if_neg (by decide), if_neg (by decide), if_neg (by decide), if_neg (by decide), if_pos rfl, if_pos (by omega), if_pos (by omega), b1', value_escaped.j1, if_pos (show ((123 : Int) == 123) = true from rfl), if_pos (by omega)]
    unfold value_numbered.f
    rw [e3, Option.bind_some]
    have le6 := escB_le c
    rw [if_pos (by omega), w64 (by omega) (by omega)]
    congr 2
    omega
  by_cases cC : c < 16
  · have all : ∀ n : Fin 16, n.val ≠ 9 → n.val ≠ 10 → n.val ≠ 13 → (escB (n.val : Int)).size = 5 ∧ byt (escB (n.val : Int)).data.toList 1 = 117 ∧ byt (escB (n.val : Int)).data.toList 2 = 123 ∧ hexV (byt (escB (n.val : Int)).data.toList 3) = n.val ∧ byt (escB (n.val : Int)).data.toList 4 = 125 := by decide +kernel
    have a := all ⟨c.toNat, by omega⟩
    simp only [Int.toNat_of_nonneg hr.1] at a
    obtain ⟨a1, a2, a3, a4, a5⟩ := a (by omega) (by omega) (by omega)
    refine hN none (by omega) a2 a3 ?_
    have s0 := num_step (t.extract 2 t.size) (k + 6) 0 0 c (by omega) (by omega) (by rw [at3 0 (by omega)]; exact a4) hr.1 (by omega) (by omega)
    have s1 := num_last (t.extract 2 t.size) (k + 5) 1 c (by omega) (by omega) (by omega) (by rw [at3 1 (by omega)]; exact a5) (fun _ => by omega) hr.1 (by omega)
    rw [show k + 7 = k + 6 + 1 by omega]
    refine s0.trans ?_
    rw [show 16 * 0 + c = c by omega, show k + 6 = k + 5 + 1 by omega]
    refine s1.trans ?_
    rw [a1]; rfl
  · have hcc : 16 ≤ c ∧ c < 32 ∨ c = 127 := by
      unfold isCtl at hc
      simp only [Bool.or_eq_true, decide_eq_true_eq, beq_iff_eq] at hc
      omega
    have all : ∀ n : Fin 128, (16 ≤ n.val ∧ n.val < 32 ∨ n.val = 127) → (escB (n.val : Int)).size = 6 ∧ byt (escB (n.val : Int)).data.toList 1 = 117 ∧ byt (escB (n.val : Int)).data.toList 2 = 123 ∧ hexV (byt (escB (n.val : Int)).data.toList 3) = (n.val / 16 : Nat) ∧ hexV (byt (escB (n.val : Int)).data.toList 4) = (n.val % 16 : Nat) ∧ byt (escB (n.val : Int)).data.toList 5 = 125 ∧ byt (escB (n.val : Int)).data.toList 3 ≠ 48 := by decide +kernel
    have a := all ⟨c.toNat, by omega⟩
    simp only [Int.toNat_of_nonneg hr.1] at a
    obtain ⟨a1, a2, a3, a4, a5, a6, a7⟩ := a (by omega)
    refine hN none (by omega) a2 a3 ?_
    have s0 := num_step (t.extract 2 t.size) (k + 6) 0 0 (c.toNat / 16 : Nat) (by omega) (by omega) (by rw [at3 0 (by omega)]; exact a4) (by omega) (by omega) (by omega)
    have s1 := num_step (t.extract 2 t.size) (k + 5) 1 (16 * 0 + (c.toNat / 16 : Nat)) (c.toNat % 16 : Nat) (by omega) (by omega) (by rw [at3 1 (by omega)]; exact a5) (by omega) (by omega) (by omega)
    have e : 16 * (16 * 0 + ((c.toNat / 16 : Nat) : Int)) + ((c.toNat % 16 : Nat) : Int) = c := by omega
    rw [e] at s1
    have s2 := num_last (t.extract 2 t.size) (k + 4) 2 c (by omega) (by omega) (by omega) (by rw [at3 2 (by omega)]; exact a6) (fun h => absurd h (by rw [at3 0 (by omega)]; exact a7)) hr.1 (by omega)
    exact (s0.trans (s1.trans (s2.trans (by rw [a1]; rfl))))
theorem next_j1 (s : ByteArray) (c n : Int) (h : 0 ≤ c) (k : Nat) : value_next.j1 (k + 1) s c n = some (if preB s (escB c) = true ∧ ((escB c).size : Int) = n then (c, n) else (0, 0)) := by
  rw [value_next.j1, show value_escape.f c = some (escB c) by unfold value_escape.f; rw [if_pos h]]
  simp only [Option.bind_some]
  rw [pre_q]
  simp only [Option.bind_some]
  by_cases a : preB s (escB c) = true
  · rw [if_pos a]
    by_cases b : ((escB c).size : Int) = n
    · rw [if_pos b, if_pos ⟨a, b⟩]
    · rw [if_neg b, if_neg (fun h => b h.2)]
  · rw [if_neg a, if_neg (fun h => a h.1)]
theorem list_ne {s : ByteArray} (h : s.size ≠ 0) : s.data.toList ≠ [] := by
  intro e
  apply h
  have := congrArg List.length e
  simpa [Array.length_toList] using this
/-- Behind a backslash. -/
theorem next_bs (s : ByteArray) (hs : s.size < 1000000) (hz : s.size ≠ 0) (h92 : byt s.data.toList 0 = 92) (k : Nat) :
    value_next.f (k + 10) s = some (match ctl s with | some c => ((c : Int), ((escB (c : Int)).size : Int)) | none => (0, 0)) := by
  have hd : Lib.decodeGo s = (92, 1) := by
    rw [decGo s hz, decodeL_byt, h92]
    unfold decodeN
    rw [if_pos (by omega)]
  unfold value_next.f utf8_DecodeRuneInString.f
  rw [hd]
  simp only [Option.bind_some]
  rw [if_neg (by decide), value_next.j0, if_neg (by decide), if_pos (by decide), if_pos (by omega)]
  cases e : ctl s with
  | some c =>
    obtain ⟨h1, h2, h3⟩ := ctl_lt s c e
    have hp := escB_pos c (by omega) (by omega)
    have two := (by decide +kernel : ∀ n : Fin 128, isCtl (n.val : Int) = true → 2 ≤ (escB (n.val : Int)).size) ⟨c, h1⟩ h2
    simp only at two
    have le6 := escB_le (c : Int)
    rw [esc_c s c h2 h3 k, Option.bind_some]
    dsimp only
    rw [if_neg (by omega), w64 (by omega) (by omega), next_j1 _ _ _ (by omega), if_pos ⟨h3, by omega⟩]
    simp
  | none =>
    obtain ⟨r1, r2, h, a1, a2, a3, a4⟩ := esc_tot (s.extract 1 s.size) (by rw [ByteArray.size_extract]; omega) k
    rw [h, Option.bind_some]
    dsimp only
    by_cases c : r2 = 0
    · rw [if_pos c]
    · rw [if_neg c, next_j1 _ _ _ a1, if_neg]
      rintro ⟨h1, h2⟩
      have w : wrap64 (r2 + 1) = r2 + 1 := w64 (by omega) (by omega)
      have h0 := pre_at h1 0 (by omega)
      have hc := escB_byte0 r1 a1 (by omega)
      rw [ctl_of s r1 hc h1] at e
      cases e
/-- Go's writing of a rune and the model's are the same bytes. -/
theorem enc_rune (r : Nat) (hv : r < 55296 ∨ (57343 < r ∧ r ≤ 1114111)) : (Utf8.encode (r : Int)).data.toList = encodeRune (r : Int) := by
  have hvalid : Utf8.valid (r : Int) = true := by
    unfold Utf8.valid
    simp only [Bool.or_eq_true, Bool.and_eq_true, decide_eq_true_eq]
    omega
  unfold Utf8.encode encodeRune
  simp only [hvalid, if_true, Int.toNat_natCast]
  by_cases c1 : r < 128
  · rw [if_pos c1, encodeRuneZ_one (by omega) (by omega)]; simp
  by_cases c2 : r < 2048
  · rw [if_neg c1, if_pos c2, encodeRuneZ_two (by omega) (by omega)]
    simp only [List.map_cons, List.map_nil]
    rw [show (192 + (r : Int) / 64).toNat = 192 + r / 64 by omega, show (128 + (r : Int) % 64).toNat = 128 + r % 64 by omega]
  by_cases c3 : r < 65536
  · rw [if_neg c1, if_neg c2, if_pos c3, encodeRuneZ_three (by omega)]
    simp only [List.map_cons, List.map_nil]
    rw [show (224 + (r : Int) / 4096).toNat = 224 + r / 4096 by omega, show (128 + (r : Int) / 64 % 64).toNat = 128 + r / 64 % 64 by omega, show (128 + (r : Int) % 64).toNat = 128 + r % 64 by omega]
  · rw [if_neg c1, if_neg c2, if_neg c3, encodeRuneZ_four (by omega) (by omega)]
    simp only [List.map_cons, List.map_nil]
    rw [show (240 + (r : Int) / 262144).toNat = 240 + r / 262144 by omega, show (128 + (r : Int) / 4096 % 64).toNat = 128 + r / 4096 % 64 by omega, show (128 + (r : Int) / 64 % 64).toNat = 128 + r / 64 % 64 by omega, show (128 + (r : Int) % 64).toNat = 128 + r % 64 by omega]
/-- What is decoded is a rune that may be, and is written as it stood there. -/
theorem dec_enc (l : List UInt8) (h : (dec l).2 ≠ 0) : decodeL l = dec l ∧ ((dec l).1 < 55296 ∨ (57343 < (dec l).1 ∧ (dec l).1 ≤ 1114111)) ∧ encodeRune ((dec l).1 : Int) = l.take (dec l).2 ∧ l ≠ [] := by
  have hne : l ≠ [] := by
    rintro rfl
    exact h rfl
  have e := dec_decodeL l hne
  have e2 : ¬ decodeL l = (65533, 1) := fun hh => by rw [if_pos hh] at e; rw [e] at h; exact h rfl
  rw [if_neg e2] at e
  refine ⟨e.symm, ?_, ?_, hne⟩
  · have h0 := byt_lt l 0
    have h1 := byt_lt l 1
    have h2 := byt_lt l 2
    have h3 := byt_lt l 3
    revert h
    unfold dec decR tl
    repeat' split
    all_goals first | (intro h; exact absurd rfl h) | (intro h; simp only; omega)
  · rw [e]
    exact encode_decode l hne (fun hh => e2 (Prod.ext hh.1 hh.2))
theorem dec_byte0 (l : List UInt8) (h : (dec l).2 ≠ 0) (hc : (dec l).1 < 128) : byt l 0 = (dec l).1 := by
  have h0 := byt_lt l 0
  have h1 := byt_lt l 1
  have h2 := byt_lt l 2
  have h3 := byt_lt l 3
  revert h hc
  unfold dec decR tl
  repeat' split
  all_goals first | (intro h; exact absurd rfl h) | (intro h hc; simp only at hc ⊢ <;> omega)
/-- Without a backslash. -/
theorem next_pl (s : ByteArray) (hz : s.size ≠ 0) (h92 : byt s.data.toList 0 ≠ 92) (h34 : byt s.data.toList 0 ≠ 34) (k : Nat) :
    value_next.f (k + 10) s = some (if (dec s.data.toList).2 = 0 ∨ (dec s.data.toList).1 < 32 ∨ (dec s.data.toList).1 = 127 then (0, 0) else (((dec s.data.toList).1 : Int), ((dec s.data.toList).2 : Int))) := by
  have hne := list_ne hz
  have hl : s.data.toList.length = s.size := Array.length_toList
  unfold value_next.f utf8_DecodeRuneInString.f
  rw [decGo s hz]
  simp only [Option.bind_some]
  by_cases hd : (dec s.data.toList).2 = 0
  · have e := dec_decodeL s.data.toList hne
    have e2 : decodeL s.data.toList = (65533, 1) := by
      by_cases h : decodeL s.data.toList = (65533, 1)
      · exact h
      · rw [if_neg h] at e
        have hw : 1 ≤ (decodeL s.data.toList).2 := Lib.width_pos _ 0
        rw [← e] at hw
        omega
    rw [e2, if_pos (by decide), value_next.j0, if_pos (by decide), if_pos (.inl hd)]
  · obtain ⟨e, hv, he, _⟩ := dec_enc s.data.toList hd
    rw [e]
    have hj : ∀ b, (b = false) → value_next.j0 (k + 10) s ((dec s.data.toList).1 : Int) ((dec s.data.toList).2 : Int) b = some (if (dec s.data.toList).2 = 0 ∨ (dec s.data.toList).1 < 32 ∨ (dec s.data.toList).1 = 127 then (0, 0) else (((dec s.data.toList).1 : Int), ((dec s.data.toList).2 : Int))) := by
      intro b hb
      have hw := dec_width s.data.toList
      have n92 : (dec s.data.toList).1 ≠ 92 := fun h => h92 ((dec_byte0 _ hd (by omega)).trans h)
      have n34 : (dec s.data.toList).1 ≠ 34 := fun h => h34 ((dec_byte0 _ hd (by omega)).trans h)
      rw [value_next.j0, hb, if_neg (by decide), if_neg (by omega), next_j1 _ _ _ (by omega)]
      by_cases hc : (dec s.data.toList).1 < 32 ∨ (dec s.data.toList).1 = 127
      · have hno : ¬ (preB s (escB ((dec s.data.toList).1 : Int)) = true ∧ ((escB ((dec s.data.toList).1 : Int)).size : Int) = ((dec s.data.toList).2 : Int)) := by
          rintro ⟨h1, h2⟩
          have hic : isCtl ((dec s.data.toList).1 : Int) = true := by
            unfold isCtl
            simp only [Bool.or_eq_true, decide_eq_true_eq, beq_iff_eq]
            omega
          have hp := escB_pos ((dec s.data.toList).1 : Int) (by omega) (by omega)
          exact h92 ((pre_at h1 0 hp).trans (isCtl_byte0 _ hic))
        have hD : (dec s.data.toList).2 = 0 ∨ (dec s.data.toList).1 < 32 ∨ (dec s.data.toList).1 = 127 := .inr hc
        rw [if_neg hno, if_pos hD]
      · have eb : escB ((dec s.data.toList).1 : Int) = Utf8.encode ((dec s.data.toList).1 : Int) := by
          unfold escB
          rw [if_neg (by omega), if_neg (by omega), if_neg (by omega), if_neg (by omega), if_neg (by omega)]
        have er := enc_rune (dec s.data.toList).1 hv
        have ez : (Utf8.encode ((dec s.data.toList).1 : Int)).size = (dec s.data.toList).2 := by
          have e1 : (Utf8.encode ((dec s.data.toList).1 : Int)).size = (Utf8.encode ((dec s.data.toList).1 : Int)).data.toList.length := size_len _
          rw [e1, er, he, List.length_take]
          omega
        have hyes : preB s (escB ((dec s.data.toList).1 : Int)) = true ∧ ((escB ((dec s.data.toList).1 : Int)).size : Int) = ((dec s.data.toList).2 : Int) := by
          rw [eb]
          refine ⟨(pre_iff _ _).2 ⟨by omega, ?_⟩, by omega⟩
          rw [ez, er, he]
        have hD : ¬ ((dec s.data.toList).2 = 0 ∨ (dec s.data.toList).1 < 32 ∨ (dec s.data.toList).1 = 127) := by
          rintro (h | h)
          · exact hd h
          · exact hc h
        rw [if_pos hyes, if_neg hD]
    by_cases hc : ((dec s.data.toList).1 : Int) = 65533
    · rw [if_pos hc]
      apply hj
      apply decide_eq_false
      intro hlt
      have hw : (dec s.data.toList).2 = 1 := by omega
      have : (dec s.data.toList).1 < 128 := by
        revert hw
        unfold dec decR tl
        repeat' split
        all_goals first | (intro h; simp at h; done) | (intro h; simp only; omega)
      omega
    · rw [if_neg hc]
      exact hj _ rfl
end Go.Proofs.YtoajlmmkkcelgaaDoor.U8
namespace Go.Proofs.YtoajlmmkkcelgaaDoor.U8
open Go.RowKit Go.Proofs.YtoajlmmkkcelgaaDoor.A Go.Proofs.YtoajlmmkkcelgaaDoorW.PrintWords Go.Proofs.YtoajlmmkkcelgaaDoorW.PrintLast Go.Lib
set_option linter.unusedVariables false
set_option linter.unusedSimpArgs false
abbrev ScanR := Int × Int × ByteArray × ByteArray × Int
def errR (e : Int) : ScanR := (0, 0, (⟨#[]⟩ : ByteArray), (⟨#[]⟩ : ByteArray), e)
/-- A text's inside, from place i on: what it says so far is acc. -/
def txtGo (s : ByteArray) : Nat → Nat → List UInt8 → ScanR
  | 0, _, _ => errR 3
  | m + 1, i, acc =>
    if s.size ≤ i then errR 3
    else if byt s.data.toList i = 34 then (if acc.length > 200 then errR 2 else (2, 0, ⟨acc.toArray⟩, s.extract (i + 1) s.size, 0))
    else if byt s.data.toList i = 92 then (match ctl (s.extract i s.size) with
      | some c => txtGo s m (i + (escB (c : Int)).size) (acc ++ encodeRune (c : Int))
      | none => errR 3)
    else if (dec (s.data.toList.drop i)).2 = 0 ∨ (dec (s.data.toList.drop i)).1 < 32 ∨ (dec (s.data.toList.drop i)).1 = 127 then errR 3
    else txtGo s m (i + (dec (s.data.toList.drop i)).2) (acc ++ encodeRune ((dec (s.data.toList.drop i)).1 : Int))
theorem byt_ext (s : ByteArray) (i j : Nat) : byt (s.extract i s.size).data.toList j = byt s.data.toList (i + j) := by rw [extract_toList, byt_drop]
theorem ctl_size (s : ByteArray) (c : Nat) (h : ctl s = some c) : 2 ≤ (escB (c : Int)).size ∧ (escB (c : Int)).size ≤ 6 ∧ (escB (c : Int)).size ≤ s.size ∧ c < 128 := by
  obtain ⟨h1, h2, h3⟩ := ctl_lt s c h
  have two := (by decide +kernel : ∀ n : Fin 128, isCtl (n.val : Int) = true → 2 ≤ (escB (n.val : Int)).size) ⟨c, h1⟩ h2
  exact ⟨two, escB_le _, ((pre_iff _ _).1 h3).1, h1⟩
theorem text_q (s : ByteArray) (hs : s.size < 1000000) (K : Nat) : ∀ (m i : Nat) (acc : List UInt8), i ≤ s.size → s.size - i < m → value_text.go (K + 10) m (s.extract i s.size) acc = some (txtGo s m i acc)
  | 0, i, acc, h1, h2 => by omega
  | m + 1, i, acc, h1, h2 => by
    have hz : (s.extract i s.size).size = s.size - i := by rw [ByteArray.size_extract]; omega
    rw [value_text.go, txtGo]
    by_cases hi : i = s.size
    · rw [if_pos (by omega), if_pos (by omega)]; rfl
    rw [if_neg (show ¬ (s.extract i s.size).size = 0 by omega), if_neg (show ¬ s.size ≤ i by omega), bt_ext0]
    by_cases h34 : byt s.data.toList i = 34
    · rw [if_pos (show ((byt s.data.toList i : Nat) : Int) = 34 by omega), if_pos h34, ext_ext]
      by_cases h200 : acc.length > 200
      · rw [if_pos h200, if_pos h200]; rfl
      · rw [if_neg h200, if_neg h200]
    rw [if_neg (show ¬ ((byt s.data.toList i : Nat) : Int) = 34 by omega), if_neg h34]
    by_cases h92 : byt s.data.toList i = 92
    · rw [if_pos h92, next_bs (s.extract i s.size) (by omega) (by omega) (by rw [byt_ext]; exact h92) K, Option.bind_some]
      cases e : ctl (s.extract i s.size) with
      | none => dsimp only; rw [if_pos rfl]; rfl
      | some c =>
        have hc := ctl_size _ c e
        dsimp only
        rw [if_neg (by omega), if_pos (by omega), Int.toNat_natCast, ext_ext]
        exact text_q s hs K m (i + (escB (c : Int)).size) _ (by omega) (by omega)
    · rw [if_neg h92, next_pl (s.extract i s.size) (by omega) (by rw [byt_ext]; exact h92) (by rw [byt_ext]; exact h34) K, Option.bind_some, extract_toList]
      by_cases hd : (dec (s.data.toList.drop i)).2 = 0 ∨ (dec (s.data.toList.drop i)).1 < 32 ∨ (dec (s.data.toList.drop i)).1 = 127
      · rw [if_pos hd, if_pos hd, if_pos rfl]; rfl
      · have hw := dec_width (s.data.toList.drop i)
        have hl : (s.data.toList.drop i).length = s.size - i := by rw [List.length_drop, ← size_len]
        rw [if_neg hd, if_neg hd]
        dsimp only
        rw [if_neg (by omega), if_pos (by omega), Int.toNat_natCast, ext_ext]
        exact text_q s hs K m (i + (dec (s.data.toList.drop i)).2) _ (by omega) (by omega)
theorem ext_part (s : ByteArray) (i n : Nat) (h : i + n ≤ s.size) : (s.extract i (i + n)).data.toList = (s.data.toList.drop i).take n := by
  rw [ByteArray.data_extract, Array.toList_extract]
  simp [List.extract_eq_take_drop]
/-- The text at the front. -/
def txtS (s : ByteArray) : ScanR := txtGo s (s.size + 1) 1 []
theorem txt_q (s : ByteArray) (hs : s.size < 1000000) (hz : s.size ≠ 0) (k : Nat) (hk : s.size + 10 ≤ k) : value_text.f k s = some (txtS s) := by
  have h0 : value_text.f (s.size + 10) s = some (txtGo s (s.size + 10) 1 []) := by
    unfold value_text.f
    rw [if_pos ⟨by omega, by omega⟩]
    exact text_q s hs s.size (s.size + 10) 1 [] (by omega) (by omega)
  have ind : ∀ m i acc, i ≤ s.size → s.size - i < m → txtGo s (m + 1) i acc = txtGo s m i acc := by
    intro m
    induction m with
    | zero => intro i acc h1 h2; omega
    | succ m ih =>
      intro i acc h1 h2
      have e1 := text_q s hs 0 (m + 1) i acc h1 h2
      have e2 := text_q s hs 0 (m + 1 + 1) i acc h1 (by omega)
      have e3 := value_text.mono_go 10 (m + 1) (s.extract i s.size) acc _ e1
      have e4 := text_q s hs 1 (m + 1 + 1) i acc h1 (by omega)
      exact Option.some.inj (e4.symm.trans e3)
  have inds : ∀ n, txtGo s (s.size + 1 + n) 1 [] = txtGo s (s.size + 1) 1 [] := by
    intro n
    induction n with
    | zero => rfl
    | succ n ih => rw [← ih]; exact ind (s.size + 1 + n) 1 [] (by omega) (by omega)
  have e := inds 9
  rw [show s.size + 1 + 9 = s.size + 10 by omega] at e
  rw [e] at h0
  exact at_rounds (fun k => value_text.mono s k) hk h0
theorem b0_at (s : ByteArray) : bt s 0 = (byt s.data.toList 0 : Int) := btq s 0
end Go.Proofs.YtoajlmmkkcelgaaDoor.U8
namespace Go.Proofs.YtoajlmmkkcelgaaDoor.U8
open Go.RowKit Go.Proofs.YtoajlmmkkcelgaaDoor.A Go.Proofs.YtoajlmmkkcelgaaDoorW.PrintWords Go.Proofs.YtoajlmmkkcelgaaDoorW.PrintLast Go.Lib
set_option linter.unusedVariables false
set_option linter.unusedSimpArgs false
/-- The integer at the front. -/
def intX (s : ByteArray) : ScanR := intR s (sg s) (dg (s.data.toList.drop (sg s))) (nv 0 ((s.data.toList.drop (sg s)).take (dg (s.data.toList.drop (sg s)))))
/-- The value at the front of a text. -/
def scanX (s : ByteArray) : ScanR :=
  if s.size = 0 then errR 3
  else if byt s.data.toList 0 = 34 then txtS s
  else if preB s (⟨#[120, 39]⟩ : ByteArray) = true then hexGo s s.size 2 []
  else if byt s.data.toList 0 = 45 ∨ (48 ≤ byt s.data.toList 0 ∧ byt s.data.toList 0 ≤ 57) then intX s
  else boolS s
theorem scan_x (s : ByteArray) (hs : s.size < 100000) (k : Nat) (hk : 1000000 ≤ k) : value_Scan.f k s = some (scanX s) := by
  unfold scanX value_Scan.f
  by_cases h0 : s.toList = ([] : List UInt8)
  · rw [if_pos h0, if_pos ((toList_nil s).1 h0)]; rfl
  have hz : s.size ≠ 0 := fun h => h0 ((toList_nil s).2 h)
  have hp : 0 < (s.size : Int) := by omega
  rw [if_neg h0, if_pos hp, if_neg hz, b0_at]
  by_cases h34 : byt s.data.toList 0 = 34
  · rw [if_pos (by omega), if_pos h34, txt_q s (by omega) hz k (by omega), Option.bind_some]
  rw [if_neg (by omega), if_neg h34, pre_q, Option.bind_some]
  by_cases hx : preB s (⟨#[120, 39]⟩ : ByteArray) = true
  · rw [if_pos hx, if_pos hx, at_rounds (fun k => value_bytes.mono s k) (show 0 + 3 * s.size + 4 ≤ k by omega) (hexes_go s (by omega) (pre_size hx) 0).1, Option.bind_some]
  rw [if_neg hx, if_neg hx]
  obtain ⟨k, rfl⟩ : ∃ q, k = q + 10 := ⟨k - 10, by omega⟩
  by_cases hd : byt s.data.toList 0 = 45 ∨ (48 ≤ byt s.data.toList 0 ∧ byt s.data.toList 0 ≤ 57)
  · rw [if_pos hd]
    have e1 := int_q s (by omega) hz 0 _ (fun _ => rfl)
    have i1 : value_Scan.j0 (k + 10) s true = some (intX s) := by
      rw [show k + 10 = k + 9 + 1 by omega, value_Scan.j0, if_pos rfl, at_rounds (fun k => value_integer.mono s k) (show 0 + s.size + 2 ≤ k + 9 by omega) e1, Option.bind_some]
      rfl
    by_cases c45 : byt s.data.toList 0 = 45
    · rw [if_pos (by omega)]; exact i1
    · rw [if_neg (by omega), if_pos (by omega), show decide (((byt s.data.toList 0 : Nat) : Int) ≤ 57) = true from decide_eq_true (by omega)]; exact i1
  · rw [if_neg hd]
    have i1 : value_Scan.j0 (k + 10) s false = some (boolS s) := by
      rw [show k + 10 = k + 5 + 4 + 1 by omega, value_Scan.j0, if_neg (by decide), bool_q s (k + 5), Option.bind_some]
    rw [if_neg (by omega)]
    by_cases c48 : ((byt s.data.toList 0 : Nat) : Int) ≥ 48
    · rw [if_pos c48, show decide (((byt s.data.toList 0 : Nat) : Int) ≤ 57) = false from decide_eq_false (by omega)]; exact i1
    · rw [if_neg c48]; exact i1
end Go.Proofs.YtoajlmmkkcelgaaDoor.U8
namespace Go.Proofs.YtoajlmmkkcelgaaDoor.U8
open Go.RowKit Go.Proofs.YtoajlmmkkcelgaaDoor.A Go.Proofs.YtoajlmmkkcelgaaDoorW.PrintWords Go.Proofs.YtoajlmmkkcelgaaDoorW.PrintLast Go.Lib
set_option linter.unusedVariables false
set_option linter.unusedSimpArgs false
/-- Digits alone. -/
def allD (l : List UInt8) : Prop := ∀ b ∈ l, 48 ≤ b.toNat ∧ b.toNat ≤ 57
theorem dgb (d : Nat) (h : d < 10) : (UInt8.ofNat (48 + d)).toNat = 48 + d := by rw [UInt8.toNat_ofNat']; omega
theorem dd_all (u : Nat) : allD (decDigits u) := by
  induction u using Nat.strongRecOn with
  | _ u ih =>
    by_cases h : u < 10
    · rw [decDigits, dif_pos h]
      intro b hb
      rw [List.mem_singleton] at hb
      rw [hb, dgb u h]; omega
    · rw [decDigits, dif_neg h]
      intro b hb
      rcases List.mem_append.1 hb with hb | hb
      · exact ih (u / 10) (by omega) b hb
      · rw [List.mem_singleton] at hb
        rw [hb, dgb _ (by omega)]; omega
theorem nv_app : ∀ (l : List UInt8) (a : Nat) (b : UInt8), nv a (l ++ [b]) = dv (nv a l) b
  | [], a, b => rfl
  | c :: l, a, b => nv_app l (dv a c) b
theorem dd_nv (u : Nat) : nv 0 (decDigits u) = u := by
  induction u using Nat.strongRecOn with
  | _ u ih =>
    by_cases h : u < 10
    · rw [decDigits, dif_pos h]
      show dv 0 _ = u
      rw [dv_eq, dgb u h]; omega
    · rw [decDigits, dif_neg h, nv_app, ih (u / 10) (by omega), dv_eq, dgb _ (by omega)]; omega
theorem dd_len (u : Nat) : 1 ≤ (decDigits u).length := by rw [decDigits_length]; exact nDigits_pos u
theorem nd_le : ∀ (k u : Nat), u < 10 ^ (k + 1) → nDigits u ≤ k + 1
  | 0, u, h => by rw [nDigits_small (by simpa using h)]; omega
  | k + 1, u, h => by
    by_cases c : u < 10
    · rw [nDigits_small c]; omega
    · rw [nDigits_big c]
      have := nd_le k (u / 10) (by rw [Nat.pow_succ] at h; omega)
      omega
theorem dd_le (u : Nat) (h : u ≤ 9007199254740991) : (decDigits u).length ≤ 16 := by
  rw [decDigits_length]
  refine nd_le 15 u ?_
  have e : 10 ^ (15 + 1) = 10000000000000000 := by decide
  rw [e]; omega
theorem byt_app0 (a b : List UInt8) (h : 1 ≤ a.length) : byt (a ++ b) 0 = byt a 0 := by
  cases a with
  | nil => simp at h
  | cons x t => rfl
theorem dd_first (u : Nat) : (byt (decDigits u) 0 = 48 → u = 0) ∧ 48 ≤ byt (decDigits u) 0 ∧ byt (decDigits u) 0 ≤ 57 := by
  induction u using Nat.strongRecOn with
  | _ u ih =>
    by_cases h : u < 10
    · rw [decDigits, dif_pos h]
      show ((UInt8.ofNat (48 + u)).toNat = 48 → u = 0) ∧ 48 ≤ (UInt8.ofNat (48 + u)).toNat ∧ (UInt8.ofNat (48 + u)).toNat ≤ 57
      rw [dgb u h]; omega
    · rw [decDigits, dif_neg h, byt_app0 _ _ (dd_len _)]
      obtain ⟨i1, i2, i3⟩ := ih (u / 10) (by omega)
      exact ⟨fun e => by have := i1 e; omega, i2, i3⟩
theorem dg_app : ∀ (l r : List UInt8), allD l → dg r = 0 → dg (l ++ r) = l.length
  | [], r, h, hr => hr
  | b :: l, r, h, hr => by
    rw [List.cons_append, dg_pos b _ (h b (List.mem_cons_self ..)), dg_app l r (fun x hx => h x (List.mem_cons_of_mem _ hx)) hr]; rfl
theorem itoa_neg' (n : Int) (h : n < 0) : itoa n = 45 :: decDigits n.natAbs := by unfold itoa; rw [if_pos h]
theorem itoa_pos' (n : Int) (h : ¬ n < 0) : itoa n = decDigits n.toNat := by unfold itoa; rw [if_neg h]
/-- An integer that is written is read. -/
theorem int_fwd (s : ByteArray) (n : Int) (h0 : -9007199254740991 ≤ n) (h1 : n ≤ 9007199254740991) (r : List UInt8) (hr : dg r = 0) (hs : s.data.toList = itoa n ++ r) :
    intX s = (1, n, ⟨#[]⟩, s.extract (itoa n).length s.size, 0) := by
  unfold intX intR
  by_cases hn : n < 0
  · have hsg : sg s = 1 := by
      unfold sg
      rw [hs, itoa_neg' n hn, if_pos (by rfl)]
    have hd : s.data.toList.drop 1 = decDigits n.natAbs ++ r := by rw [hs, itoa_neg' n hn]; rfl
    have hl := dd_len n.natAbs
    have hl2 := dd_le n.natAbs (by omega)
    have hf := dd_first n.natAbs
    have hb : byt s.data.toList 1 = byt (decDigits n.natAbs) 0 := by
      rw [← byt_app0 _ r hl, ← hd, byt_drop]
    rw [hsg, hd, dg_app _ _ (dd_all _) hr, List.take_left' rfl, dd_nv, if_neg (by omega), if_neg (fun e => by have := hf.1 (by rw [← hb]; exact e.1); omega), if_neg (by omega), if_pos rfl, itoa_neg' n hn, List.length_cons, show (-((n.natAbs : Nat) : Int)) = n by omega, Nat.add_comm]
  · have hl := dd_len n.toNat
    have hl2 := dd_le n.toNat (by omega)
    have hf := dd_first n.toNat
    rw [itoa_pos' n hn] at hs ⊢
    have hb : byt s.data.toList 0 = byt (decDigits n.toNat) 0 := by rw [hs, byt_app0 _ r hl]
    have hsg : sg s = 0 := by
      unfold sg
      rw [if_neg (by omega)]
    have hd : s.data.toList.drop 0 = decDigits n.toNat ++ r := by rw [hs]; rfl
    have hz : byt s.data.toList 0 = 48 → (decDigits n.toNat).length = 1 := fun e => by
      rw [hf.1 (by rw [← hb]; exact e)]
      rw [decDigits_length, nDigits_small (by omega)]
    rw [hsg, hd, dg_app _ _ (dd_all _) hr, List.take_left' rfl, dd_nv, if_neg (by omega), if_neg (fun e => by have := hz e.1; omega), if_neg (by omega), if_neg (by omega), show ((n.toNat : Nat) : Int) = n by omega, Nat.zero_add]
end Go.Proofs.YtoajlmmkkcelgaaDoor.U8
namespace Go.Proofs.YtoajlmmkkcelgaaDoor.U8
open Go.RowKit Go.Proofs.YtoajlmmkkcelgaaDoor.A Go.Proofs.YtoajlmmkkcelgaaDoorW.PrintWords Go.Proofs.YtoajlmmkkcelgaaDoorW.PrintLast Go.Lib
set_option linter.unusedVariables false
set_option linter.unusedSimpArgs false
theorem get_byt2 (s : ByteArray) (i : Nat) : (s.get! i).toNat = byt s.data.toList i := by
  have := get_byt s.data.toList i
  have e : (⟨s.data.toList.toArray⟩ : ByteArray) = s := by cases s; simp
  rwa [e] at this
theorem decode_drop (s : ByteArray) (i : Nat) : Utf8.decode s i = decodeL (s.data.toList.drop i) := by
  rw [decode_at, decodeL_byt, get_byt2, get_byt2, get_byt2, get_byt2, byt_drop, byt_drop, byt_drop, byt_drop, List.length_drop, ← size_len]
  rfl
theorem decode_dec (s : ByteArray) (i : Nat) (hi : i < s.size) (h : (dec (s.data.toList.drop i)).2 ≠ 0) : Utf8.decode s i = dec (s.data.toList.drop i) := by
  have hne : s.data.toList.drop i ≠ [] := by
    intro e
    have := congrArg List.length e
    rw [List.length_drop, ← size_len] at this
    simp at this
    omega
  rw [decode_drop]
  have e := dec_decodeL _ hne
  by_cases hb : decodeL (s.data.toList.drop i) = (65533, 1)
  · rw [if_pos hb] at e; rw [e] at h; exact absurd rfl h
  · rw [if_neg hb] at e; exact e.symm
/-- The runes of a text, as far as it is UTF-8. -/
def runesF : Nat → List UInt8 → List Nat
  | 0, _ => []
  | f + 1, l => if l.isEmpty then [] else if (dec l).2 = 0 then [] else (dec l).1 :: runesF f (l.drop (dec l).2)
def runesOf (l : List UInt8) : List Nat := runesF l.length l
end Go.Proofs.YtoajlmmkkcelgaaDoor.U8
namespace Go.Proofs.YtoajlmmkkcelgaaDoor.U8
open Go.RowKit Go.Proofs.YtoajlmmkkcelgaaDoor.A Go.Proofs.YtoajlmmkkcelgaaDoorW.PrintWords Go.Proofs.YtoajlmmkkcelgaaDoorW.PrintLast Go.Lib
set_option linter.unusedVariables false
set_option linter.unusedSimpArgs false
/-- Bytes, each as two digits. -/
def hexL : List UInt8 → List Int
  | [] => []
  | b :: l => hexd ((b.toNat : Int) / 16) :: hexd ((b.toNat : Int) % 16) :: hexL l
theorem hexL_len : ∀ l, (hexL l).length = 2 * l.length
  | [] => rfl
  | b :: l => by simp only [hexL, List.length_cons, hexL_len l]; omega
theorem and15 (b : Nat) (h : b < 256) : Go.bits .and .u8 (b : Int) 15 = ((b % 16 : Nat) : Int) := by
  have all : ∀ n : Fin 256, Go.bits .and .u8 (n.val : Int) 15 = ((n.val % 16 : Nat) : Int) := by decide +kernel
  exact all ⟨b, h⟩
theorem hexdig (d : Nat) (h : d < 16) : bt (⟨#[48, 49, 50, 51, 52, 53, 54, 55, 56, 57, 97, 98, 99, 100, 101, 102]⟩ : ByteArray) (d : Int) = hexd (d : Int) := by
  have all : ∀ n : Fin 16, bt (⟨#[48, 49, 50, 51, 52, 53, 54, 55, 56, 57, 97, 98, 99, 100, 101, 102]⟩ : ByteArray) (n.val : Int) = hexd (n.val : Int) := by decide +kernel
  exact all ⟨d, h⟩
theorem drop_byt (s : ByteArray) (i : Nat) (h : i < s.size) : ∃ b : UInt8, s.data.toList.drop i = b :: s.data.toList.drop (i + 1) ∧ byt s.data.toList i = b.toNat := drop_at _ i (by rw [← size_len]; exact h)
theorem hexed_l0 (s : ByteArray) (hs : s.size < 1000000) (k : Nat) : ∀ (m i : Nat) (xs : List Int), i ≤ s.size → s.size - i ≤ m → xs.length ≤ 2 + 2 * i → value_hexed.l0 (k + m + 1) s xs (s.size : Int) (i : Int) = some (strOfNums (xs ++ hexL (s.data.toList.drop i) ++ [39]))
  | 0, i, xs, h1, h2, h3 => by
    have e : s.data.toList.drop i = [] := List.drop_of_length_le (by rw [← size_len]; omega)
    rw [show k + 0 + 1 = k + 1 by omega, value_hexed.l0, if_neg (by omega), if_pos (by omega), e, hexL, List.append_nil]
  | m + 1, i, xs, h1, h2, h3 => by
    rw [show k + (m + 1) + 1 = k + m + 1 + 1 by omega, value_hexed.l0]
    by_cases hi : i = s.size
    · have e : s.data.toList.drop i = [] := List.drop_of_length_le (by rw [← size_len]; omega)
      rw [if_neg (by omega), if_pos (by omega), e, hexL, List.append_nil]
    · obtain ⟨b, e, hb⟩ := drop_byt s i (by omega)
      have g := byt_lt s.data.toList i
      rw [if_pos (by omega), if_pos (by omega), if_pos (by omega), btq s i, and15 _ g, show ((byt s.data.toList i : Nat) : Int) / 16 = ((byt s.data.toList i / 16 : Nat) : Int) by omega, if_pos (by omega), if_pos (by omega), if_pos (by omega), if_pos (by omega), Option.bind_some, hexdig _ (by omega), hexdig _ (by omega)]
      rw [if_pos (by show xs.length + 2 < _; omega), wa1 i (by omega), hexed_l0 s hs k m (i + 1) _ (by omega) (by omega) (by rw [List.length_append]; show xs.length + 2 ≤ _; omega)]
      rw [e, hexL, hb, show (((b.toNat / 16 : Nat)) : Int) = (b.toNat : Int) / 16 by omega, show (((b.toNat % 16 : Nat)) : Int) = (b.toNat : Int) % 16 by omega]
      simp only [List.append_assoc, List.cons_append, List.nil_append]
theorem hexed_q (s : ByteArray) (hs : s.size < 1000000) (k : Nat) (hk : s.size + 1 ≤ k) : value_hexed.f k s = some (strOfNums ([120, 39] ++ hexL s.data.toList ++ [39])) := by
  have h := hexed_l0 s hs 0 s.size 0 [120, 39] (by omega) (by omega) (by simp)
  rw [show 0 + s.size + 1 = s.size + 1 by omega, List.drop_zero] at h
  have h0 : value_hexed.f (s.size + 1) s = some (strOfNums ([120, 39] ++ hexL s.data.toList ++ [39])) := by
    unfold value_hexed.f
    exact h
  exact at_rounds (fun k => value_hexed.mono s k) hk h0
/-- Runes, as they stand within a literal. -/
def escL : List Nat → List UInt8
  | [] => []
  | c :: cs => (escB (c : Int)).data.toList ++ escL cs
theorem quoted_runes (s : ByteArray) : ∀ (m i : Nat), i ≤ s.size → s.size - i ≤ m → validF m (s.data.toList.drop i) = true → quotedFrom s m i = escL (runesF m (s.data.toList.drop i))
  | 0, i, h1, h2, hv => by
    rw [quotedFrom]; rfl
  | m + 1, i, h1, h2, hv => by
    have hl : (s.data.toList.drop i).length = s.size - i := by rw [List.length_drop, ← size_len]
    rw [quotedFrom, runesF]
    by_cases hi : i = s.size
    · have e : s.data.toList.drop i = [] := List.drop_of_length_le (by rw [← size_len]; omega)
      rw [if_neg (by omega), e]; rfl
    · have hne : ¬ ((s.data.toList.drop i).isEmpty = true) := by
        intro h; rw [List.isEmpty_iff] at h; rw [h] at hl; simp at hl; omega
      have hw := dec_width (s.data.toList.drop i)
      rw [validF, if_neg hne] at hv
      by_cases hz : (dec (s.data.toList.drop i)).2 = 0
      · rw [if_pos hz] at hv; cases hv
      · rw [if_neg hz, List.drop_drop] at hv
        rw [if_pos (by omega), if_neg hne, if_neg hz, decode_dec s i (by omega) hz, escL, quoted_runes s m _ (by omega) (by omega) hv, List.drop_drop]
theorem quoted_q (s : ByteArray) (hs : s.size < 1000000) (hv : validD s.data.toList = true) : value_quoted.f s = some ⟨(34 :: (escL (runesOf s.data.toList) ++ [34])).toArray⟩ := by
  unfold value_quoted.f
  have hl : s.data.toList.length = s.size := (size_len s).symm
  rw [validD_validF, hl] at hv
  rw [if_pos (by omega), quoted_runes s s.size 0 (by omega) (by omega) (by rw [List.drop_zero]; exact hv), List.drop_zero]
  unfold runesOf
  rw [hl]
/-- A value that may be, as a literal. -/
def showL (a0 a1 : Int) (a2 : ByteArray) : List UInt8 :=
  if a0 = 1 then itoa a1 else if a0 = 2 then 34 :: (escL (runesOf a2.data.toList) ++ [34])
  else if a0 = 3 then (if a1 = 1 then [116, 114, 117, 101] else [102, 97, 108, 115, 101])
  else Go.Lib.bytesOf ([120, 39] ++ hexL a2.data.toList ++ [39])
end Go.Proofs.YtoajlmmkkcelgaaDoor.U8
namespace Go.Proofs.YtoajlmmkkcelgaaDoor.U8
open Go.RowKit Go.Proofs.YtoajlmmkkcelgaaDoor.A Go.Proofs.YtoajlmmkkcelgaaDoorW.PrintWords Go.Proofs.YtoajlmmkkcelgaaDoorW.PrintLast Go.Lib
set_option linter.unusedVariables false
set_option linter.unusedSimpArgs false
/-- A rune that may be. -/
def okC (c : Nat) : Prop := c < 55296 ∨ (57343 < c ∧ c ≤ 1114111)
theorem u8n (n : Nat) (h : n < 256) : (n.toUInt8).toNat = n := by
  show (UInt8.ofNat n).toNat = n
  rw [UInt8.toNat_ofNat']; omega
theorem byt0 (b : UInt8) (l : List UInt8) : byt (b :: l) 0 = b.toNat := rfl
theorem byt1 (a b : UInt8) (l : List UInt8) : byt (a :: b :: l) 1 = b.toNat := rfl
theorem byt2 (a b c : UInt8) (l : List UInt8) : byt (a :: b :: c :: l) 2 = c.toNat := rfl
theorem byt3 (a b c d : UInt8) (l : List UInt8) : byt (a :: b :: c :: d :: l) 3 = d.toNat := rfl
theorem dec_encode (c : Nat) (h : okC c) (l : List UInt8) : dec (encodeRune (c : Int) ++ l) = (c, (encodeRune (c : Int)).length) := by
  unfold okC at h
  unfold encodeRune
  by_cases c1 : c < 128
  · rw [encodeRuneZ_one (by omega) (by omega)]
    simp only [List.map_cons, List.map_nil, List.cons_append, List.nil_append, Int.toNat_natCast]
    unfold dec decR
    rw [byt0, u8n c (by omega), if_neg (by simp), if_pos c1]
    rfl
  by_cases c2 : c < 2048
  · rw [encodeRuneZ_two (by omega) (by omega)]
    simp only [List.map_cons, List.map_nil, List.cons_append, List.nil_append]
    rw [show (192 + (c : Int) / 64).toNat = 192 + c / 64 by omega, show (128 + (c : Int) % 64).toNat = 128 + c % 64 by omega]
    unfold dec decR tl
    rw [byt0, byt1, u8n _ (by omega), u8n _ (by omega), if_neg (by simp), if_neg (by omega), if_pos ⟨by omega, by omega, by simp, by omega, by omega⟩]
    exact Prod.ext (by show 64 * (192 + c / 64 - 192) + (128 + c % 64 - 128) = c; omega) rfl
  by_cases c3 : c < 65536
  · rw [encodeRuneZ_three (by omega)]
    simp only [List.map_cons, List.map_nil, List.cons_append, List.nil_append]
    rw [show (224 + (c : Int) / 4096).toNat = 224 + c / 4096 by omega, show (128 + (c : Int) / 64 % 64).toNat = 128 + c / 64 % 64 by omega, show (128 + (c : Int) % 64).toNat = 128 + c % 64 by omega]
    have e : 4096 * (224 + c / 4096 - 224) + 64 * (128 + c / 64 % 64 - 128) + (128 + c % 64 - 128) = c := by omega
    unfold dec decR tl
    rw [byt0, byt1, byt2, u8n _ (by omega), u8n _ (by omega), u8n _ (by omega), if_neg (by simp), if_neg (by omega), if_neg (by omega), if_pos ⟨by omega, by omega, ⟨by simp, by omega, by omega⟩, ⟨by simp, by omega, by omega⟩, by omega, by omega⟩]
    exact Prod.ext e rfl
  · rw [encodeRuneZ_four (by omega) (by omega)]
    simp only [List.map_cons, List.map_nil, List.cons_append, List.nil_append]
    rw [show (240 + (c : Int) / 262144).toNat = 240 + c / 262144 by omega, show (128 + (c : Int) / 4096 % 64).toNat = 128 + c / 4096 % 64 by omega, show (128 + (c : Int) / 64 % 64).toNat = 128 + c / 64 % 64 by omega, show (128 + (c : Int) % 64).toNat = 128 + c % 64 by omega]
    have e : 262144 * (240 + c / 262144 - 240) + 4096 * (128 + c / 4096 % 64 - 128) + 64 * (128 + c / 64 % 64 - 128) + (128 + c % 64 - 128) = c := by omega
    unfold dec decR tl
    rw [byt0, byt1, byt2, byt3, u8n _ (by omega), u8n _ (by omega), u8n _ (by omega), u8n _ (by omega), if_neg (by simp), if_neg (by omega), if_neg (by omega), if_neg (by omega), if_pos ⟨by omega, by omega, ⟨by simp, by omega, by omega⟩, ⟨by simp, by omega, by omega⟩, ⟨by simp, by omega, by omega⟩, by omega, by omega⟩]
    exact Prod.ext e rfl
def encL : List Nat → List UInt8
  | [] => []
  | c :: cs => encodeRune (c : Int) ++ encL cs
theorem enc_pos (c : Nat) : 1 ≤ (encodeRune (c : Int)).length := by
  unfold encodeRune
  rw [List.length_map]
  exact (encodeRuneZ_length (c : Int)).1
theorem enc_runes : ∀ (m : Nat) (l : List UInt8), l.length ≤ m → validF m l = true → encL (runesF m l) = l ∧ ∀ c ∈ runesF m l, okC c
  | 0, l, hl, hv => by
    have : l = [] := List.eq_nil_of_length_eq_zero (by omega)
    subst this
    exact ⟨rfl, fun c hc => by simp [runesF] at hc⟩
  | m + 1, l, hl, hv => by
    by_cases he : l.isEmpty = true
    · rw [runesF, if_pos he]
      rw [List.isEmpty_iff] at he
      subst he
      exact ⟨rfl, fun c hc => by simp at hc⟩
    · rw [validF, if_neg he] at hv
      by_cases hz : (dec l).2 = 0
      · rw [if_pos hz] at hv; cases hv
      · rw [if_neg hz] at hv
        obtain ⟨_, ho, hen, _⟩ := dec_enc l hz
        obtain ⟨i1, i2⟩ := enc_runes m (l.drop (dec l).2) (by rw [List.length_drop]; omega) hv
        rw [runesF, if_neg he, if_neg hz, encL, i1, hen, List.take_append_drop]
        refine ⟨rfl, fun c hc => ?_⟩
        rcases List.mem_cons.1 hc with rfl | hc
        · exact ho
        · exact i2 c hc
theorem ext_drop {s : ByteArray} {i : Nat} {a b : List UInt8} (h : s.data.toList.drop i = a ++ b) (hi : i ≤ s.size) : s.data.toList.drop (i + a.length) = b ∧ i + a.length ≤ s.size := by
  have hl := congrArg List.length h
  rw [List.length_drop, ← size_len, List.length_append] at hl
  refine ⟨?_, by omega⟩
  rw [← List.drop_drop, h, List.drop_left]
theorem byt_of_drop {s : ByteArray} {i : Nat} {l : List UInt8} (h : s.data.toList.drop i = l) : byt s.data.toList i = byt l 0 := by
  rw [← h, byt_drop]; rfl
theorem escB_pl (c : Nat) (h : okC c) (hn : ¬ isCtl (c : Int) = true) : (escB (c : Int)).data.toList = encodeRune (c : Int) ∧ 32 ≤ c ∧ c ≠ 127 ∧ c ≠ 34 ∧ c ≠ 92 := by
  unfold isCtl at hn
  simp only [Bool.or_eq_true, decide_eq_true_eq, beq_iff_eq] at hn
  refine ⟨?_, by omega, by omega, by omega, by omega⟩
  have eb : escB (c : Int) = Utf8.encode (c : Int) := by
    unfold escB
    rw [if_neg (by omega), if_neg (by omega), if_neg (by omega), if_neg (by omega), if_neg (by omega)]
  rw [eb, enc_rune c h]
theorem enc_byt0 (c : Nat) (h : okC c) (l : List UInt8) (k : Nat) (hk : k < 128) (e : byt (encodeRune (c : Int) ++ l) 0 = k) : c = k := by
  have hd := dec_encode c h l
  unfold dec decR at hd
  have hne : ¬ (encodeRune (c : Int) ++ l).length = 0 := by have := enc_pos c; rw [List.length_append]; omega
  rw [if_neg hne, e, if_pos hk] at hd
  exact (congrArg Prod.fst hd).symm
/-- What is written within a text is read. -/
theorem txt_fwd (s : ByteArray) (hs : s.size < 1000000) (r : List UInt8) : ∀ (cs : List Nat) (m i : Nat) (acc : List UInt8), (∀ c ∈ cs, okC c) → i ≤ s.size → s.size - i < m → s.data.toList.drop i = escL cs ++ 34 :: r → acc.length + (encL cs).length ≤ 200 →
    ∃ j, s.data.toList.drop j = r ∧ j ≤ s.size ∧ txtGo s m i acc = (2, 0, ⟨(acc ++ encL cs).toArray⟩, s.extract j s.size, 0)
  | [], m, i, acc, hc, h1, h2, h3, h4 => by
    obtain ⟨m, rfl⟩ : ∃ q, m = q + 1 := ⟨m - 1, by omega⟩
    have hb : byt s.data.toList i = 34 := by rw [byt_of_drop h3]; rfl
    obtain ⟨e1, e2⟩ := ext_drop (a := [34]) (b := r) (by rw [h3]; rfl) h1
    have hlt : ¬ s.size ≤ i := by simp at e2; omega
    refine ⟨i + 1, e1, e2, ?_⟩
    rw [txtGo, if_neg hlt, if_pos hb, if_neg (by omega)]
    simp [encL]
  | c :: cs, m, i, acc, hc, h1, h2, h3, h4 => by
    obtain ⟨m, rfl⟩ : ∃ q, m = q + 1 := ⟨m - 1, by omega⟩
    rw [escL, List.append_assoc] at h3
    have ho := hc c (List.mem_cons_self ..)
    obtain ⟨e1, e2⟩ := ext_drop h3 h1
    rw [encL, List.length_append] at h4
    by_cases hctl : isCtl (c : Int) = true
    · have hr := isCtl_lt _ hctl
      have hpos := escB_pos (c : Int) (by omega) (by omega)
      have hz : 0 < (escB (c : Int)).data.toList.length := by rw [← size_len]; exact hpos
      have hb : byt s.data.toList i = 92 := by
        rw [byt_of_drop h3, ← isCtl_byte0 _ hctl]
        match hm : (escB (c : Int)).data.toList with
        | [] => rw [hm] at hz; simp at hz
        | b :: t => rfl
      have hp : preB (s.extract i s.size) (escB (c : Int)) = true := by
        rw [pre_iff, extract_toList, h3, size_len (escB (c : Int)), List.take_left]
        refine ⟨?_, rfl⟩
        rw [ByteArray.size_extract]; omega
      have hct := ctl_of (s.extract i s.size) (c : Int) hctl hp
      rw [Int.toNat_natCast] at hct
      obtain ⟨j, j1, j2, j3⟩ := txt_fwd s hs r cs m (i + (escB (c : Int)).size) (acc ++ encodeRune (c : Int)) (fun x hx => hc x (List.mem_cons_of_mem _ hx)) (by rw [size_len]; exact e2) (by omega) (by rw [size_len]; exact e1) (by rw [List.length_append]; omega)
      refine ⟨j, j1, j2, ?_⟩
      rw [txtGo, if_neg (by rw [← size_len] at e2; omega), if_neg (by omega), if_pos hb, hct]
      dsimp only
      rw [j3, List.append_assoc]
      rfl
    · obtain ⟨ee, g1, g2, g3, g4⟩ := escB_pl c ho hctl
      rw [ee] at h3 e1 e2
      have hd : dec (s.data.toList.drop i) = (c, (encodeRune (c : Int)).length) := by rw [h3]; exact dec_encode c ho _
      have hp := enc_pos c
      have n34 : byt s.data.toList i ≠ 34 := fun e => g3 (enc_byt0 c ho _ 34 (by omega) (by rw [← h3, byt_drop]; exact e))
      have n92 : byt s.data.toList i ≠ 92 := fun e => g4 (enc_byt0 c ho _ 92 (by omega) (by rw [← h3, byt_drop]; exact e))
      obtain ⟨j, j1, j2, j3⟩ := txt_fwd s hs r cs m (i + (encodeRune (c : Int)).length) (acc ++ encodeRune (c : Int)) (fun x hx => hc x (List.mem_cons_of_mem _ hx)) e2 (by omega) e1 (by rw [List.length_append]; omega)
      refine ⟨j, j1, j2, ?_⟩
      rw [txtGo, if_neg (by omega), if_neg n34, if_neg n92, hd]
      dsimp only
      rw [if_neg (by omega), j3, List.append_assoc]
      rfl
end Go.Proofs.YtoajlmmkkcelgaaDoor.U8
namespace Go.Proofs.YtoajlmmkkcelgaaDoor.U8
open Go.RowKit Go.Proofs.YtoajlmmkkcelgaaDoor.A Go.Proofs.YtoajlmmkkcelgaaDoorW.PrintWords Go.Proofs.YtoajlmmkkcelgaaDoorW.PrintLast Go.Lib
set_option linter.unusedVariables false
set_option linter.unusedSimpArgs false
/-- A hexadecimal digit's byte. -/
def hdB (d : Int) : UInt8 := UInt8.ofNat (hexd d).toNat
/-- Bytes, each as two digits' bytes. -/
def hexB : List UInt8 → List UInt8
  | [] => []
  | b :: l => hdB ((b.toNat : Int) / 16) :: hdB ((b.toNat : Int) % 16) :: hexB l
theorem hexB_L : ∀ l, Go.Lib.bytesOf (hexL l) = hexB l
  | [] => rfl
  | b :: l => by
    have := hexB_L l
    unfold Go.Lib.bytesOf at this ⊢
    rw [hexL, hexB, List.map_cons, List.map_cons, this]; rfl
theorem hex_fin : ∀ n : Fin 256, hexV (hdB ((n.val : Int) / 16)).toNat = (n.val : Int) / 16 ∧ hexV (hdB ((n.val : Int) % 16)).toNat = (n.val : Int) % 16 ∧ (hdB ((n.val : Int) / 16)).toNat ≠ 39 := by decide +kernel
theorem hex_b (b : UInt8) : hexV (hdB ((b.toNat : Int) / 16)).toNat = (b.toNat : Int) / 16 ∧ hexV (hdB ((b.toNat : Int) % 16)).toNat = (b.toNat : Int) % 16 ∧ (hdB ((b.toNat : Int) / 16)).toNat ≠ 39 := hex_fin ⟨b.toNat, UInt8.toNat_lt b⟩
/-- Bytes as numbers. -/
def nums (l : List UInt8) : List Int := l.map fun b => (b.toNat : Int)
theorem nums_str (l : List UInt8) : (strOfNums (nums l)).data.toList = l := by
  show ((nums l).map fun n => UInt8.ofNat n.toNat) = l
  unfold nums
  rw [List.map_map]
  conv => rhs; rw [← List.map_id l]
  refine List.map_congr_left fun b hb => ?_
  show UInt8.ofNat ((b.toNat : Int)).toNat = b
  rw [Int.toNat_natCast, UInt8.ofNat_toNat]
theorem hex_fwd (s : ByteArray) (r : List UInt8) : ∀ (l : List UInt8) (m i : Nat) (xs : List Int), i ≤ s.size → s.size - i < m → s.data.toList.drop i = hexB l ++ 39 :: r → xs.length + l.length ≤ 200 →
    ∃ j, s.data.toList.drop j = r ∧ j ≤ s.size ∧ hexGo s m i xs = (4, 0, strOfNums (xs ++ nums l), s.extract j s.size, 0)
  | [], m, i, xs, h1, h2, h3, h4 => by
    obtain ⟨m, rfl⟩ : ∃ q, m = q + 1 := ⟨m - 1, by omega⟩
    obtain ⟨e1, e2⟩ := ext_drop (a := [39]) (b := r) (by rw [h3]; rfl) h1
    have hb : byt s.data.toList i = 39 := by rw [byt_of_drop h3]; rfl
    have e3 : i + 1 ≤ s.size := e2
    refine ⟨i + 1, e1, e2, ?_⟩
    rw [hexGo, if_neg (by omega), if_pos hb, if_neg (by simp at h4; omega)]
    simp [nums]
  | b :: l, m, i, xs, h1, h2, h3, h4 => by
    obtain ⟨m, rfl⟩ : ∃ q, m = q + 1 := ⟨m - 1, by omega⟩
    obtain ⟨e1, e2⟩ := ext_drop (a := [hdB ((b.toNat : Int) / 16), hdB ((b.toNat : Int) % 16)]) (b := hexB l ++ 39 :: r) (by rw [h3]; rfl) h1
    have e3 : i + 2 ≤ s.size := e2
    have b0 : byt s.data.toList i = (hdB ((b.toNat : Int) / 16)).toNat := by rw [byt_of_drop h3]; rfl
    have b1 : byt s.data.toList (i + 1) = (hdB ((b.toNat : Int) % 16)).toNat := by
      rw [← byt_drop, h3]; rfl
    obtain ⟨v0, v1, v2⟩ := hex_b b
    have hlt := UInt8.toNat_lt b
    have hl : (b :: l).length = l.length + 1 := rfl
    obtain ⟨j, j1, j2, j3⟩ := hex_fwd s r l m (i + 2) (xs ++ [(b.toNat : Int)]) e2 (by omega) e1 (by rw [List.length_append]; show xs.length + 1 + l.length ≤ 200; omega)
    refine ⟨j, j1, j2, ?_⟩
    rw [hexGo, if_neg (by omega), b0, if_neg v2, b1, v0, v1, if_neg (by omega), show (16 * ((b.toNat : Int) / 16) + (b.toNat : Int) % 16) % 256 = (b.toNat : Int) by omega, j3]
    rw [List.append_assoc]; rfl
/-- A value that may be. -/
def okV (a0 a1 : Int) (a2 : ByteArray) : Prop :=
  (a0 = 1 ∧ -9007199254740991 ≤ a1 ∧ a1 ≤ 9007199254740991 ∧ a2.size = 0) ∨ (a0 = 2 ∧ a1 = 0 ∧ a2.size ≤ 200 ∧ validD a2.data.toList = true) ∨ (a0 = 3 ∧ (a1 = 0 ∨ a1 = 1) ∧ a2.size = 0) ∨ (a0 = 4 ∧ a1 = 0 ∧ a2.size ≤ 200)
theorem empty_beq (s : ByteArray) : (s.toList == ([] : List UInt8)) = decide (s.size = 0) := by
  have h := toList_nil s
  by_cases c : s.size = 0
  · rw [h.2 c, decide_eq_true c]; rfl
  · rw [decide_eq_false c]
    exact beq_eq_false_iff_ne.2 fun e => c (h.1 e)
theorem check_ok (a0 a1 : Int) (a2 : ByteArray) (h : okV a0 a1 a2) : value_Check.f a0 a1 a2 = some true := by
  unfold value_Check.f
  rw [empty_beq]
  rcases h with ⟨rfl, h1, h2, h3⟩ | ⟨rfl, rfl, h1, h2⟩ | ⟨rfl, h1, h2⟩ | ⟨rfl, rfl, h1⟩
  · rw [if_pos rfl, if_pos (by omega), if_pos (by omega), decide_eq_true h3]
  · rw [if_neg (by omega), if_pos rfl, if_pos rfl, if_pos (by omega), utf8_ValidString.f, if_pos (by omega), Option.bind_some, h2]
  · rw [if_neg (by omega), if_neg (by omega), if_pos rfl, decide_eq_true h2]
    rcases h1 with rfl | rfl <;> rfl
  · rw [if_neg (by omega), if_neg (by omega), if_neg (by omega), if_pos rfl, if_pos rfl, decide_eq_true (by omega)]
theorem check_no (a0 a1 : Int) (a2 : ByteArray) (h : ¬ okV a0 a1 a2) : value_Check.f a0 a1 a2 = some false := by
  unfold value_Check.f
  unfold okV at h
  rw [empty_beq]
  by_cases c1 : a0 = 1
  · subst c1
    rw [if_pos rfl]
    by_cases d1 : a1 ≥ -9007199254740991
    · rw [if_pos d1]
      by_cases d2 : a1 ≤ 9007199254740991
      · rw [if_pos d2, decide_eq_false fun e => h (.inl ⟨rfl, d1, d2, e⟩)]
      · rw [if_neg d2]
    · rw [if_neg d1]
  rw [if_neg c1]
  by_cases c2 : a0 = 2
  · subst c2
    rw [if_pos rfl]
    by_cases d1 : a1 = 0
    · rw [if_pos d1]
      by_cases d2 : (a2.size : Int) ≤ 200
      · rw [if_pos d2, utf8_ValidString.f, if_pos (by omega), Option.bind_some]
        by_cases d3 : validD a2.data.toList = true
        · exact absurd (.inr (.inl ⟨rfl, d1, by omega, d3⟩)) h
        · rw [Bool.not_eq_true] at d3; rw [d3]
      · rw [if_neg d2]
    · rw [if_neg d1]
  rw [if_neg c2]
  by_cases c3 : a0 = 3
  · subst c3
    rw [if_pos rfl]
    by_cases d1 : a1 = 0
    · rw [if_pos d1, decide_eq_false fun e => h (.inr (.inr (.inl ⟨rfl, .inl d1, e⟩)))]
    rw [if_neg d1]
    by_cases d2 : a1 = 1
    · rw [if_pos d2, decide_eq_false fun e => h (.inr (.inr (.inl ⟨rfl, .inr d2, e⟩)))]
    rw [if_neg d2]
  rw [if_neg c3]
  by_cases c4 : a0 = 4
  · subst c4
    rw [if_pos rfl]
    by_cases d1 : a1 = 0
    · rw [if_pos d1, decide_eq_false fun e => h (.inr (.inr (.inr ⟨rfl, d1, by omega⟩)))]
    rw [if_neg d1]
  rw [if_neg c4]
theorem show_no (a0 a1 : Int) (a2 : ByteArray) (h : ¬ okV a0 a1 a2) (k : Nat) : value_Show.f k a0 a1 a2 = some ⟨#[]⟩ := by
  unfold value_Show.f
  rw [check_no _ _ _ h, Option.bind_some, if_neg (by decide)]
theorem show_q (a0 a1 : Int) (a2 : ByteArray) (h : okV a0 a1 a2) (k : Nat) (hk : 300 ≤ k) : value_Show.f k a0 a1 a2 = some ⟨(showL a0 a1 a2).toArray⟩ := by
  unfold value_Show.f showL
  rw [check_ok _ _ _ h, Option.bind_some, if_pos rfl]
  rcases h with ⟨rfl, h1, h2, h3⟩ | ⟨rfl, rfl, h1, h2⟩ | ⟨rfl, h1, h2⟩ | ⟨rfl, rfl, h1⟩
  · rw [if_pos rfl, if_pos rfl, strconv_Itoa.f, if_pos (by omega), Option.bind_some]
  · rw [if_neg (by omega), if_pos rfl, if_neg (by omega), if_pos rfl, quoted_q a2 (by omega) h2, Option.bind_some]
  · rw [if_neg (by omega), if_neg (by omega), if_pos rfl, if_neg (by omega), if_neg (by omega), if_pos rfl]
    rcases h1 with rfl | rfl <;> rfl
  · rw [if_neg (by omega), if_neg (by omega), if_neg (by omega), if_neg (by omega), if_neg (by omega), if_neg (by omega), hexed_q a2 (by omega) k (by omega), Option.bind_some]
    rfl
end Go.Proofs.YtoajlmmkkcelgaaDoor.U8
namespace Go.Proofs.YtoajlmmkkcelgaaDoor.U8
open Go.RowKit Go.Proofs.YtoajlmmkkcelgaaDoor.A Go.Proofs.YtoajlmmkkcelgaaDoorW.PrintWords Go.Proofs.YtoajlmmkkcelgaaDoorW.PrintLast Go.Lib
set_option linter.unusedVariables false
set_option linter.unusedSimpArgs false
/-- A number of either sign as one without. -/
def foldN (v : Int) : Nat := if v < 0 then (-2 * v - 1).toNat else (2 * v).toNat
def unf (n : Int) : Int := if n % 2 = 1 then -(n / 2) - 1 else n / 2
theorem unf_fold (v : Int) : unf (foldN v : Int) = v := by
  unfold unf foldN
  by_cases h : v < 0
  · rw [if_pos h, if_pos (by omega)]; omega
  · rw [if_neg h, if_neg (by omega)]; omega
/-- A value that may be, as bytes. -/
def textL (a0 a1 : Int) (a2 : ByteArray) : List UInt8 :=
  encN a0.toNat ++ (if a0 = 1 then encN (foldN a1) else if a0 = 3 then [UInt8.ofNat a1.toNat] else encN a2.size ++ a2.data.toList)
theorem numS (n : Nat) : (strOfNums (numB n)).data.toList = encN n := rfl
theorem numS_size (n : Nat) : (strOfNums (numB n)).size = szOf n := by rw [size_len, numS, encN_len]
theorem one1 (n : Nat) (h : n ≤ 4611686018427387903) (k : Nat) : quic_one.f (k + 20) 1 (n : Int) ⟨#[]⟩ = some (strOfNums (numB n), true) := by
  unfold quic_one.f
  rw [if_pos rfl, numq n h k, Option.bind_some, if_pos (by omega), if_pos (by omega), empty_beq]; rfl
theorem one2 (v : Int) (h0 : -9007199254740991 ≤ v) (h1 : v ≤ 9007199254740991) (k : Nat) : quic_one.f (k + 20) 2 v ⟨#[]⟩ = some (strOfNums (numB (foldN v)), true) := by
  have hw : quic_whole.f v = some true := by unfold quic_whole.f; rw [if_pos (by omega), decide_eq_true (by omega)]
  have hf : quic_fold.f v = some (foldN v : Int) := by
    unfold quic_fold.f foldN
    by_cases c : v < 0
    · rw [if_pos c, if_pos c, w64 (x := (-2) * v) (by omega) (by omega), w64 (by omega) (by omega), Int.toNat_of_nonneg (by omega)]
    · rw [if_neg c, if_neg c, w64 (by omega) (by omega), Int.toNat_of_nonneg (by omega)]
  have hn : foldN v ≤ 4611686018427387903 := by unfold foldN; split <;> omega
  unfold quic_one.f quic_Whole.f
  rw [if_neg (by omega), if_pos rfl, hw, Option.bind_some, if_pos rfl, hf, Option.bind_some, numq _ hn k, Option.bind_some, Option.bind_some, Option.bind_some, if_pos rfl, empty_beq]; rfl
theorem one3 (b : Int) (h : b = 0 ∨ b = 1) (k : Nat) : quic_one.f k 3 b ⟨#[]⟩ = some (⟨#[UInt8.ofNat b.toNat]⟩, true) := by
  unfold quic_one.f
  rw [if_neg (by omega), if_neg (by omega), if_pos rfl, Option.bind_some, empty_beq]
  rcases h with rfl | rfl <;> rfl
theorem one4 (S : ByteArray) (h : S.size ≤ 200) (k : Nat) : quic_one.f (k + 20) 4 0 S = some (strOfNums (numB S.size) ++ S, true) := by
  unfold quic_one.f quic_text.f
  have := szOf_pos S.size
  rw [if_neg (by omega), if_neg (by omega), if_neg (by omega), if_pos rfl, numq _ (by omega) k, Option.bind_some, if_pos (by rw [numS_size]; omega), Option.bind_some, if_pos (by omega)]; rfl
theorem put2 (k : Nat) (x y : S91) (a b : ByteArray) (hx : quic_one.f k x.f0 x.f1 x.f2 = some (a, true)) (hy : quic_one.f k y.f0 y.f1 y.f2 = some (b, true)) (ha : a.size ≤ 1000000) (hb : b.size ≤ 1000000) :
    quic_Put.f k ([x] ++ [y]) = some (⟨(a.data.toList ++ b.data.toList).toArray⟩, 0) := by
  unfold quic_Put.f
  show (if 2 ≤ 4096 then quic_Put.go k [x, y] [] else _) = _
  rw [if_pos (by omega), quic_Put.go, hx, Option.bind_some, if_pos rfl, if_pos (by show 0 + a.size ≤ _; omega), quic_Put.go, hy, Option.bind_some, if_pos rfl, if_pos (by rw [List.nil_append, ← size_len]; show a.size + b.size ≤ _; omega), quic_Put.go, List.nil_append]
theorem vtext_q (a0 a1 : Int) (a2 : ByteArray) (h : okV a0 a1 a2) (k : Nat) : value_Text.f (k + 20) a0 a1 a2 = some ⟨(textL a0 a1 a2).toArray⟩ := by
  unfold value_Text.f textL
  rw [check_ok _ _ _ h, Option.bind_some, if_pos rfl, Option.bind_some]
  have hl : ∀ x : S91, ([x] : List S91).length < 4398046511104 := fun x => by show 1 < _; omega
  have hz : ∀ n : Nat, (strOfNums (numB n)).size ≤ 1000 := fun n => by rw [numS_size]; have := szOf_pos n; omega
  rcases h with ⟨rfl, h1, h2, h3⟩ | ⟨rfl, rfl, h1, h2⟩ | ⟨rfl, h1, h2⟩ | ⟨rfl, rfl, h1⟩
  · rw [if_pos rfl, if_pos (hl _), put2 _ _ _ _ _ (one1 1 (by omega) k) (one2 a1 h1 h2 k) (by have := hz 1; omega) (by have := hz (foldN a1); omega), Option.bind_some, if_pos rfl]; rfl
  · rw [if_neg (by omega), if_neg (by omega), if_pos (hl _), put2 _ _ _ _ _ (one1 2 (by omega) k) (one4 a2 h1 k) (by have := hz 2; omega) (by rw [ByteArray.size_append]; have := hz a2.size; omega), Option.bind_some, if_neg (by omega), if_neg (by omega), ByteArray.data_append, Array.toList_append]; rfl
  · rw [if_neg (by omega), if_pos rfl, if_pos (hl _), put2 _ _ _ _ _ (one1 3 (by omega) k) (one3 a1 h1 (k + 20)) (by have := hz 3; omega) (by show 1 ≤ _; omega), Option.bind_some, if_neg (by omega), if_pos rfl]; rfl
  · rw [if_neg (by omega), if_neg (by omega), if_pos (hl _), put2 _ _ _ _ _ (one1 4 (by omega) k) (one4 a2 h1 k) (by have := hz 4; omega) (by rw [ByteArray.size_append]; have := hz a2.size; omega), Option.bind_some, if_neg (by omega), if_neg (by omega), ByteArray.data_append, Array.toList_append]; rfl
theorem vtext_no (a0 a1 : Int) (a2 : ByteArray) (h : ¬ okV a0 a1 a2) (k : Nat) : value_Text.f k a0 a1 a2 = some ⟨#[]⟩ := by
  unfold value_Text.f
  rw [check_no _ _ _ h, Option.bind_some, if_neg (by decide)]
theorem get_ok (s : ByteArray) : 0 ≤ (getS s).1 ∧ (getS s).1 ≤ 4611686018427387903 ∧ (getS s).2.1.size ≤ s.size := by
  unfold getS
  have hp := pow_le8 (byt s.data.toList 0 / 64) (by have := byt_lt s.data.toList 0; omega)
  have hb := be_max s.data.toList (2 ^ (byt s.data.toList 0 / 64) - 1) (by omega)
  have z : (⟨#[]⟩ : ByteArray).size = 0 := rfl
  repeat' split
  all_goals (refine ⟨?_, ?_, ?_⟩)
  all_goals first | (simp only; omega) | skip
  all_goals simp [ByteArray.size_extract]
theorem and_one (x : Int) (h0 : 0 ≤ x) (h1 : x ≤ 4611686018427387903) : Go.bits .and .i64 x 1 = x % 2 := by
  have e63 : (2 : Int) ^ 63 = 9223372036854775808 := by decide
  have h := bits_mask .i64 63 (by decide) (fun n h0 h1 => by rw [e63] at h1; rw [IntKind.wrap_i64]; omega) 1 (by decide) x h0 (by omega)
  have e : ((2 : Int) ^ 1 - 1) = 1 := by decide
  rw [e] at h
  rw [h]
  rfl
/-- What is taken at the front: the manner q. -/
def takeX (s : ByteArray) (q : Int) : Int × Int × ByteArray × ByteArray × Int :=
  if q = 4 then
    (if (getS s).2.2 = 0 then
      (if (getS s).1 > 65536 then (4, 0, ⟨#[]⟩, ⟨#[]⟩, 2) else if (getS s).1 > ((getS s).2.1.size : Int) then (4, 0, ⟨#[]⟩, ⟨#[]⟩, 7)
        else (4, 0, (getS s).2.1.extract 0 (getS s).1.toNat, (getS s).2.1.extract (getS s).1.toNat (getS s).2.1.size, 0))
      else (4, 0, ⟨#[]⟩, ⟨#[]⟩, (getS s).2.2))
  else if q = 3 then (if s.size = 0 then (3, 0, ⟨#[]⟩, ⟨#[]⟩, 7) else if byt s.data.toList 0 > 1 then (3, 0, ⟨#[]⟩, ⟨#[]⟩, 3) else (3, (byt s.data.toList 0 : Int), ⟨#[]⟩, s.extract 1 s.size, 0))
  else (2, unf (getS s).1, ⟨#[]⟩, (getS s).2.1, (getS s).2.2)
theorem takeX2 (s : ByteArray) : takeX s 2 = (2, unf (getS s).1, ⟨#[]⟩, (getS s).2.1, (getS s).2.2) := rfl
theorem takeX3 (s : ByteArray) : takeX s 3 = (if s.size = 0 then (3, 0, ⟨#[]⟩, ⟨#[]⟩, 7) else if byt s.data.toList 0 > 1 then (3, 0, ⟨#[]⟩, ⟨#[]⟩, 3) else (3, (byt s.data.toList 0 : Int), ⟨#[]⟩, s.extract 1 s.size, 0)) := rfl
theorem takeX4 (s : ByteArray) : takeX s 4 = (if (getS s).2.2 = 0 then
      (if (getS s).1 > 65536 then (4, 0, ⟨#[]⟩, ⟨#[]⟩, 2) else if (getS s).1 > ((getS s).2.1.size : Int) then (4, 0, ⟨#[]⟩, ⟨#[]⟩, 7)
        else (4, 0, (getS s).2.1.extract 0 (getS s).1.toNat, (getS s).2.1.extract (getS s).1.toNat (getS s).2.1.size, 0))
      else (4, 0, ⟨#[]⟩, ⟨#[]⟩, (getS s).2.2)) := rfl
theorem take_x (s : ByteArray) (hs : s.size < 1000000) (q : Int) (hq : q = 2 ∨ q = 3 ∨ q = 4) (k : Nat) : quic_take.f (k + 12) s q = some (takeX s q) := by
  have g := qget s hs k
  have ho := get_ok s
  have n24 : ¬ (2 : Int) = 4 := by omega
  have n23 : ¬ (2 : Int) = 3 := by omega
  have n34 : ¬ (3 : Int) = 4 := by omega
  rcases hq with rfl | rfl | rfl
  · rw [takeX2]
    unfold quic_take.f quic_unfold.f unf
    rw [if_neg n24, if_neg n23, if_pos rfl, g, Option.bind_some, and_one _ ho.1 ho.2.1]
    by_cases c : (getS s).1 % 2 = 1
    · rw [if_pos c, if_pos c, Option.bind_some, w64 (x := -((getS s).1 / 2)) (by omega) (by omega), w64 (by omega) (by omega)]
    · rw [if_neg c, if_neg c, Option.bind_some]
  · rw [takeX3]
    unfold quic_take.f quic_getFlag.f
    rw [if_neg n34, if_pos rfl]
    by_cases hz : s.size = 0
    · rw [if_pos ((toList_nil s).2 hz), if_pos hz]; rfl
    rw [if_neg (fun h => hz ((toList_nil s).1 h)), if_neg hz, if_pos (show (0 : Int) < (s.size : Int) by omega), show bt s 0 = (byt s.data.toList 0 : Int) from bt_byt s 0]
    by_cases c : byt s.data.toList 0 > 1
    · rw [if_pos (show ((byt s.data.toList 0 : Nat) : Int) > 1 by omega), if_pos c]; rfl
    · rw [if_neg (show ¬ ((byt s.data.toList 0 : Nat) : Int) > 1 by omega), if_neg c, if_pos (show (1 : Int) ≤ (s.size : Int) by omega), w64 (by omega) (by omega)]; rfl
  · rw [takeX4]
    unfold quic_take.f quic_getText.f
    rw [if_pos rfl, g, Option.bind_some]
    by_cases hz : (getS s).2.2 = 0
    · rw [if_pos hz, if_pos hz]
      by_cases c1 : (getS s).1 > 65536
      · rw [if_pos c1, if_pos c1]; rfl
      rw [if_neg c1, if_neg c1]
      by_cases c2 : (getS s).1 > ((getS s).2.1.size : Int)
      · rw [if_pos c2, if_pos c2]; rfl
      · rw [if_neg c2, if_neg c2, if_pos ho.1, if_pos (show (getS s).1 ≤ ((getS s).2.1.size : Int) by omega)]; rfl
    · rw [if_neg hz, if_neg hz]; rfl
theorem takes_q (k : Nat) (s : ByteArray) (q n : Int) (S rest : ByteArray) (e : Int) (hq : 1 ≤ q ∧ q ≤ 4) (h : quic_take.f (k + 1) s q = some (q, n, S, rest, e)) :
    quic_Take.f (k + 4) s [q] = some (if e = 0 then ([⟨q, n, S⟩], rest, 0) else ([], ⟨#[]⟩, e)) := by
  have hl : (([q] : List Int).length : Int) = 1 := rfl
  have hr : rd [q] 0 = q := rfl
  have w : wrap64 (0 + 1) = 1 := by unfold wrap64; omega
  unfold quic_Take.f
  rw [hl, if_neg (by omega), quic_Take.l0, hl, if_pos (by omega), if_pos (by omega), if_pos (by omega), hr, if_neg (by omega), if_neg (by omega), w]
  rw [quic_Take.l0, if_neg (by omega), hl, quic_Take.l1, if_pos (by omega), if_pos (by omega), hl, if_pos (by omega), hr, h]
  simp only [Option.bind_some]
  by_cases hz : e = 0
  · rw [if_pos hz, if_pos hz, if_pos (by decide), w, quic_Take.l1, if_neg (by omega)]
    rfl
  · rw [if_neg hz, if_neg hz]
instance (a0 a1 : Int) (a2 : ByteArray) : Decidable (okV a0 a1 a2) := by unfold okV; infer_instance
def hw (n : Int) : Int := if n = 1 then 2 else if n = 3 then 3 else if n = 2 then 4 else if n = 4 then 4 else 0
theorem how_q (n : Int) : value_how.f n = some (hw n) := by
  unfold value_how.f hw
  repeat' split
  all_goals rfl
theorem hw_in (n : Int) : (n = 1 ∧ hw n = 2) ∨ (n = 3 ∧ hw n = 3) ∨ ((n = 2 ∨ n = 4) ∧ hw n = 4) ∨ ((n ≠ 1 ∧ n ≠ 2 ∧ n ≠ 3 ∧ n ≠ 4) ∧ hw n = 0) := by
  unfold hw
  repeat' split
  all_goals omega
theorem takeX_q (s : ByteArray) (q : Int) (hq : q = 2 ∨ q = 3 ∨ q = 4) : (takeX s q).1 = q := by
  unfold takeX
  rcases hq with rfl | rfl | rfl
  · rw [if_neg (by omega), if_neg (by omega)]
  · rw [if_neg (by omega), if_pos rfl]
    repeat' split
    all_goals rfl
  · rw [if_pos rfl]
    repeat' split
    all_goals rfl
/-- The value at the front of bytes. -/
def readX (s : ByteArray) : Int × Int × ByteArray × ByteArray × Int :=
  if (getS s).2.2 = 0 then
    (if hw (getS s).1 = 0 then (0, 0, ⟨#[]⟩, ⟨#[]⟩, 8)
    else if (takeX (getS s).2.1 (hw (getS s).1)).2.2.2.2 = 0 then
      (if okV (getS s).1 (takeX (getS s).2.1 (hw (getS s).1)).2.1 (takeX (getS s).2.1 (hw (getS s).1)).2.2.1 then
        ((getS s).1, (takeX (getS s).2.1 (hw (getS s).1)).2.1, (takeX (getS s).2.1 (hw (getS s).1)).2.2.1, (takeX (getS s).2.1 (hw (getS s).1)).2.2.2.1, 0)
      else (0, 0, ⟨#[]⟩, ⟨#[]⟩, 3))
    else (0, 0, ⟨#[]⟩, ⟨#[]⟩, (takeX (getS s).2.1 (hw (getS s).1)).2.2.2.2))
  else (0, 0, ⟨#[]⟩, ⟨#[]⟩, (getS s).2.2)
theorem read_x (s : ByteArray) (hs : s.size < 1000000) (k : Nat) : value_Read.f (k + 20) s = some (readX s) := by
  have g := qget s hs (k + 8)
  have ho := get_ok s
  unfold value_Read.f readX
  rw [show k + 20 = k + 8 + 12 by omega, g, Option.bind_some]
  by_cases hz : (getS s).2.2 = 0
  · rw [if_pos hz, if_pos hz, how_q, Option.bind_some]
    by_cases h0 : hw (getS s).1 = 0
    · rw [if_pos h0, if_pos h0]
    · rw [if_neg h0, if_neg h0, Option.bind_some]
      have hq : hw (getS s).1 = 2 ∨ hw (getS s).1 = 3 ∨ hw (getS s).1 = 4 := by have := hw_in (getS s).1; omega
      have t := take_x (getS s).2.1 (by omega) _ hq (k + 5)
      have t1 := takeX_q (getS s).2.1 _ hq
      generalize hT : takeX (getS s).2.1 (hw (getS s).1) = T at *
      obtain ⟨q, n, S, rest, e⟩ := T
      simp only at t1
      subst t1
      rw [show k + 8 + 12 = (k + 16) + 4 by omega, takes_q (k + 16) _ _ n S rest e (by omega) t, Option.bind_some]
      by_cases he : e = 0
      · subst he
        dsimp only
        rw [if_pos rfl, if_pos rfl]
        dsimp only
        rw [if_pos rfl, if_pos (by show (0 : Int) < 1; omega)]
        have r1 : rd_T91 [⟨hw (getS s).1, n, S⟩] 0 = ⟨hw (getS s).1, n, S⟩ := rfl
        rw [r1]
        dsimp only
        by_cases hv : okV (getS s).1 n S
        · rw [check_ok _ _ _ hv, Option.bind_some, if_pos rfl, if_pos hv]
        · rw [check_no _ _ _ hv, Option.bind_some, if_neg (by decide), if_neg hv]
      · dsimp only
        rw [if_neg he, if_neg he]
        dsimp only
        rw [if_neg he]
  · rw [if_neg hz, if_neg hz]
end Go.Proofs.YtoajlmmkkcelgaaDoor.U8
namespace Go.Proofs.YtoajlmmkkcelgaaDoor.U8
open Go.RowKit Go.Proofs.YtoajlmmkkcelgaaDoor.A Go.Proofs.YtoajlmmkkcelgaaDoorW.PrintWords Go.Proofs.YtoajlmmkkcelgaaDoorW.PrintLast Go.Lib
set_option linter.unusedVariables false
set_option linter.unusedSimpArgs false
theorem ba_nil (s : ByteArray) (h : s.size = 0) : s = ⟨#[]⟩ := baext (List.eq_nil_of_length_eq_zero (by rw [← size_len]; exact h))
theorem byt_cons (s : ByteArray) (b : UInt8) (l : List UInt8) (h : s.data.toList = b :: l) : byt s.data.toList 0 = b.toNat ∧ s.size ≠ 0 := by
  refine ⟨by rw [h]; rfl, ?_⟩
  rw [size_len, h, List.length_cons]; omega
theorem no_pre (s : ByteArray) (c : Nat) (h : byt s.data.toList 0 = c) (p : ByteArray) (hp : p.size ≠ 0) (hn : c ≠ byt p.data.toList 0) : ¬ preB s p = true := fun e => hn (by rw [← h]; exact pre_byte e hp)
theorem pre_app (s p : ByteArray) (r : List UInt8) (h : s.data.toList = p.data.toList ++ r) : preB s p = true := by
  rw [pre_iff]
  refine ⟨?_, ?_⟩
  · rw [size_len, size_len, h, List.length_append]; omega
  · rw [h, size_len, List.take_left]
theorem valid_runes (a : ByteArray) (hv : validD a.data.toList = true) : encL (runesOf a.data.toList) = a.data.toList ∧ ∀ c ∈ runesOf a.data.toList, okC c := by
  rw [validD_validF] at hv
  exact enc_runes _ _ (Nat.le_refl _) hv
theorem scan_fwd (s : ByteArray) (hs : s.size < 1000000) (a0 a1 : Int) (a2 : ByteArray) (h : okV a0 a1 a2) (r : List UInt8) (hr1 : dg r = 0) (hr2 : goesB r = false) (he : s.data.toList = showL a0 a1 a2 ++ r) :
    ∃ j, s.data.toList.drop j = r ∧ j ≤ s.size ∧ scanX s = (a0, a1, a2, s.extract j s.size, 0) := by
  have hl := congrArg List.length he
  rw [List.length_append, ← size_len] at hl
  rcases h with ⟨rfl, h1, h2, h3⟩ | ⟨rfl, rfl, h1, h2⟩ | ⟨rfl, h1, h2⟩ | ⟨rfl, rfl, h1⟩
  · rw [ba_nil a2 h3]
    have hs0 : showL 1 a1 a2 = itoa a1 := by unfold showL; rw [if_pos rfl]
    rw [hs0] at he hl
    refine ⟨(itoa a1).length, by rw [he, List.drop_left], by omega, ?_⟩
    have hb : byt s.data.toList 0 = 45 ∨ (48 ≤ byt s.data.toList 0 ∧ byt s.data.toList 0 ≤ 57) := by
      rw [he]
      by_cases c : a1 < 0
      · rw [itoa_neg' _ c]; exact .inl rfl
      · rw [itoa_pos' _ c, byt_app0 _ _ (dd_len _)]; exact .inr (dd_first _).2
    have hz : s.size ≠ 0 := by
      have : 1 ≤ (itoa a1).length := by
        by_cases c : a1 < 0
        · rw [itoa_neg' _ c, List.length_cons]; omega
        · rw [itoa_pos' _ c]; exact dd_len _
      omega
    unfold scanX
    rw [if_neg hz, if_neg (by omega), if_neg (no_pre s _ rfl _ (by decide) (by show byt s.data.toList 0 ≠ 120; omega)), if_pos hb]
    exact int_fwd s a1 h1 h2 r hr1 he
  · have hs0 : showL 2 0 a2 = 34 :: (escL (runesOf a2.data.toList) ++ [34]) := by unfold showL; rw [if_neg (by omega), if_pos rfl]
    rw [hs0, List.cons_append] at he
    obtain ⟨b0, hz⟩ := byt_cons s 34 (escL (runesOf a2.data.toList) ++ [34] ++ r) he
    obtain ⟨v1, v2⟩ := valid_runes a2 h2
    have hd : s.data.toList.drop 1 = escL (runesOf a2.data.toList) ++ 34 :: r := by
      rw [he]
      show escL (runesOf a2.data.toList) ++ [34] ++ r = _
      rw [List.append_assoc]; rfl
    obtain ⟨j, j1, j2, j3⟩ := txt_fwd s hs r (runesOf a2.data.toList) (s.size + 1) 1 [] v2 (by omega) (by omega) hd (by rw [v1, ← size_len]; show 0 + a2.size ≤ 200; omega)
    refine ⟨j, j1, j2, ?_⟩
    unfold scanX
    rw [if_neg hz, if_pos (show byt s.data.toList 0 = 34 from b0)]
    show txtGo s (s.size + 1) 1 [] = _
    rw [j3, List.nil_append, v1]
  · rw [ba_nil a2 h2]
    rcases h1 with rfl | rfl
    · have hs0 : showL 3 0 a2 = wFalse.data.toList := by unfold showL; rw [if_neg (by omega), if_neg (by omega), if_pos rfl, if_neg (by omega)]; rfl
      rw [hs0] at he hl
      have hf : wFalse.data.toList.length = 5 := rfl
      obtain ⟨b0, hz⟩ := byt_cons s 102 _ he
      have b1 : byt s.data.toList 0 = 102 := b0
      have hd : s.data.toList.drop 5 = r := by rw [he, ← hf, List.drop_left]
      refine ⟨5, hd, by omega, ?_⟩
      unfold scanX
      rw [if_neg hz, if_neg (by omega), if_neg (no_pre s 102 b1 _ (by decide) (by decide)), if_neg (by omega), boolS, if_neg (fun e => no_pre s 102 b1 wTrue (by decide) (by decide) e.1), if_pos ⟨pre_app s wFalse r he, by rw [hd]; exact hr2⟩]
    · have hs0 : showL 3 1 a2 = wTrue.data.toList := by unfold showL; rw [if_neg (by omega), if_neg (by omega), if_pos rfl, if_pos rfl]; rfl
      rw [hs0] at he hl
      have hf : wTrue.data.toList.length = 4 := rfl
      obtain ⟨b0, hz⟩ := byt_cons s 116 _ he
      have b1 : byt s.data.toList 0 = 116 := b0
      have hd : s.data.toList.drop 4 = r := by rw [he, ← hf, List.drop_left]
      refine ⟨4, hd, by omega, ?_⟩
      unfold scanX
      rw [if_neg hz, if_neg (by omega), if_neg (no_pre s 116 b1 _ (by decide) (by decide)), if_neg (by omega), boolS, if_pos ⟨pre_app s wTrue r he, by rw [hd]; exact hr2⟩]
  · have hs0 : showL 4 0 a2 = 120 :: 39 :: (hexB a2.data.toList ++ [39]) := by
      unfold showL
      rw [if_neg (by omega), if_neg (by omega), if_neg (by omega), ← hexB_L]
      unfold Go.Lib.bytesOf
      rw [List.map_append, List.map_append]; rfl
    rw [hs0] at he hl
    obtain ⟨b0, hz⟩ := byt_cons s 120 _ he
    have b1 : byt s.data.toList 0 = 120 := b0
    simp only [List.length_cons] at hl
    have hd : s.data.toList.drop 2 = hexB a2.data.toList ++ 39 :: r := by
      rw [he]
      show hexB a2.data.toList ++ [39] ++ r = _
      rw [List.append_assoc]; rfl
    obtain ⟨j, j1, j2, j3⟩ := hex_fwd s r a2.data.toList s.size 2 [] (by omega) (by omega) hd (by rw [← size_len]; show 0 + a2.size ≤ 200; omega)
    refine ⟨j, j1, j2, ?_⟩
    unfold scanX
    rw [if_neg hz, if_neg (by omega), if_pos (pre_app s _ _ he), j3, List.nil_append]
    rw [baext (nums_str a2.data.toList)]
end Go.Proofs.YtoajlmmkkcelgaaDoor.U8
namespace Go.Proofs.YtoajlmmkkcelgaaDoor.U8
open Go.RowKit Go.Proofs.YtoajlmmkkcelgaaDoor.A Go.Proofs.YtoajlmmkkcelgaaDoorW.PrintWords Go.Proofs.YtoajlmmkkcelgaaDoorW.PrintLast Go.Lib
set_option linter.unusedVariables false
set_option linter.unusedSimpArgs false
theorem read_at (s u rest a2 : ByteArray) (a0 a1 q : Int) (g : getS s = (a0, u, 0)) (h : hw a0 = q) (hq : q ≠ 0) (t : takeX u q = (q, a1, a2, rest, 0)) (hv : okV a0 a1 a2) : readX s = (a0, a1, a2, rest, 0) := by
  unfold readX
  rw [g]
  dsimp only
  rw [if_pos rfl, h, if_neg hq, t]
  dsimp only
  rw [if_pos rfl, if_pos hv]
theorem ext_all (s : ByteArray) (n : Nat) (a b : List UInt8) (h : s.data.toList = a ++ b) (hn : a.length = n) : (s.extract 0 n).data.toList = a ∧ (s.extract n s.size).data.toList = b := by
  refine ⟨?_, by rw [extract_toList, h, ← hn, List.drop_left]⟩
  have hl := congrArg List.length h
  rw [List.length_append, ← size_len] at hl
  have := ext_part s 0 n (by omega)
  rw [Nat.zero_add] at this
  rw [this, h, List.drop_zero, ← hn, List.take_left]
theorem read_fwd (s : ByteArray) (a0 a1 : Int) (a2 : ByteArray) (h : okV a0 a1 a2) (r : List UInt8) (he : s.data.toList = textL a0 a1 a2 ++ r) : ∃ rest : ByteArray, rest.data.toList = r ∧ readX s = (a0, a1, a2, rest, 0) := by
  have h' := h
  unfold textL at he
  rw [List.append_assoc] at he
  have ha : 0 ≤ a0 ∧ a0 ≤ 4 := by unfold okV at h; omega
  obtain ⟨g, g2, g3⟩ := get_fwd s a0.toNat (by omega) _ he
  rw [Int.toNat_of_nonneg ha.1] at g
  rw [← extract_toList] at g2
  generalize s.extract (szOf a0.toNat) s.size = u at *
  rcases h with ⟨rfl, h1, h2, h3⟩ | ⟨rfl, rfl, h1, h2⟩ | ⟨rfl, h1, h2⟩ | ⟨rfl, rfl, h1⟩
  · rw [if_pos rfl] at g2
    have hf : foldN a1 ≤ 4611686018427387903 := by unfold foldN; split <;> omega
    obtain ⟨k1, k2, k3⟩ := get_fwd u (foldN a1) hf r g2
    refine ⟨u.extract (szOf (foldN a1)) u.size, by rw [extract_toList]; exact k2, ?_⟩
    refine read_at s u _ a2 1 a1 2 g rfl (by omega) ?_ h'
    rw [takeX2, k1, unf_fold, ba_nil a2 h3]
  · rw [if_neg (by omega), if_neg (by omega), List.append_assoc] at g2
    have hp := szOf_pos a2.size
    obtain ⟨k1, k2, k3⟩ := get_fwd u a2.size (by omega) _ g2
    rw [← extract_toList] at k2
    generalize u.extract (szOf a2.size) u.size = v at *
    obtain ⟨m1, m2⟩ := ext_all v a2.size _ _ k2 (size_len a2).symm
    have hl := congrArg List.length k2
    rw [List.length_append, ← size_len, ← size_len] at hl
    refine ⟨v.extract a2.size v.size, m2, ?_⟩
    refine read_at s u _ a2 2 0 4 g rfl (by omega) ?_ h'
    rw [takeX4, k1]
    dsimp only
    rw [if_pos rfl, if_neg (by omega), if_neg (by omega), Int.toNat_natCast, baext m1]
  · rw [if_neg (by omega), if_pos rfl] at g2
    obtain ⟨b0, hz⟩ := byt_cons u (UInt8.ofNat a1.toNat) r g2
    have hb : byt u.data.toList 0 = a1.toNat := by rw [b0, UInt8.toNat_ofNat']; omega
    refine ⟨u.extract 1 u.size, by rw [extract_toList, g2]; rfl, ?_⟩
    refine read_at s u _ a2 3 a1 3 g rfl (by omega) ?_ h'
    rw [takeX3, if_neg hz, if_neg (by omega), hb, Int.toNat_of_nonneg (by omega), ba_nil a2 h2]
  · rw [if_neg (by omega), if_neg (by omega), List.append_assoc] at g2
    have hp := szOf_pos a2.size
    obtain ⟨k1, k2, k3⟩ := get_fwd u a2.size (by omega) _ g2
    rw [← extract_toList] at k2
    generalize u.extract (szOf a2.size) u.size = v at *
    obtain ⟨m1, m2⟩ := ext_all v a2.size _ _ k2 (size_len a2).symm
    have hl := congrArg List.length k2
    rw [List.length_append, ← size_len, ← size_len] at hl
    refine ⟨v.extract a2.size v.size, m2, ?_⟩
    refine read_at s u _ a2 4 0 4 g rfl (by omega) ?_ h'
    rw [takeX4, k1]
    dsimp only
    rw [if_pos rfl, if_neg (by omega), if_neg (by omega), Int.toNat_natCast, baext m1]
end Go.Proofs.YtoajlmmkkcelgaaDoor.U8
namespace Go.Proofs.YtoajlmmkkcelgaaDoor.Pure
open Go.RowKit Go.Proofs.YtoajlmmkkcelgaaDoor.A Go.Proofs.YtoajlmmkkcelgaaDoor.U8 Go.Proofs.YtoajlmmkkcelgaaDoorW.PrintWords Go.Proofs.YtoajlmmkkcelgaaDoorW.PrintLast
set_option linter.unusedSimpArgs false
set_option maxRecDepth 100000 in
theorem awake_true : caduceuslaw03_awake.f 60 = some true := by decide +kernel
theorem awake_ev (k : Nat) (h : 60 ≤ k) : caduceuslaw03_awake.f k = some true := at_rounds (fun k => caduceuslaw03_awake.mono k) h awake_true
end Go.Proofs.YtoajlmmkkcelgaaDoor.Pure
namespace Go.Proofs.YtoajlmmkkcelgaaDoor.Pure
open Go.RowKit Go.Proofs.YtoajlmmkkcelgaaDoor.A Go.Proofs.YtoajlmmkkcelgaaDoor.U8 Go.Proofs.YtoajlmmkkcelgaaDoorW.PrintWords Go.Proofs.YtoajlmmkkcelgaaDoorW.PrintLast Go.Lib
set_option linter.unusedSimpArgs false
set_option linter.unusedVariables false
theorem goes_blank (l : List UInt8) : goesB (32 :: l) = false := by
  have e : (32 : UInt8).toNat = 32 := rfl
  have d : dec (32 :: l) = (32, 1) := by
    unfold dec decR
    rw [byt0, e, if_neg (by simp), if_pos (by omega)]
  rw [goesB, d]
  decide
theorem mk_cat (a : List UInt8) (b : ByteArray) : ((⟨a.toArray⟩ : ByteArray) ++ b).data.toList = a ++ b.data.toList := by rw [ByteArray.data_append, Array.toList_append]
theorem mk_sz (a : List UInt8) : (⟨a.toArray⟩ : ByteArray).size = a.length := by rw [size_len]
theorem escL_le : ∀ cs : List Nat, (∀ c ∈ cs, okC c) → (escL cs).length ≤ 8 * (encL cs).length
  | [], h => Nat.le_refl _
  | c :: cs, h => by
    have ih := escL_le cs (fun x hx => h x (List.mem_cons_of_mem _ hx))
    have hp := enc_pos c
    rw [escL, encL, List.length_append, List.length_append]
    by_cases hc : isCtl (c : Int) = true
    · have hr := isCtl_lt _ hc
      have h6 := (ctl_size (escB (c : Int)) c (by
        have := ctl_of (escB (c : Int)) (c : Int) hc (pre_app _ _ [] (by rw [List.append_nil]))
        rwa [Int.toNat_natCast] at this)).2.1
      rw [size_len] at h6
      omega
    · rw [(escB_pl c (h c (List.mem_cons_self ..)) hc).1]; omega
theorem showL_le (a0 a1 : Int) (a2 : ByteArray) (h : okV a0 a1 a2) : (showL a0 a1 a2).length ≤ 2000 := by
  unfold showL
  rcases h with ⟨rfl, h1, h2, h3⟩ | ⟨rfl, rfl, h1, h2⟩ | ⟨rfl, h1, h2⟩ | ⟨rfl, rfl, h1⟩
  · rw [if_pos rfl]
    by_cases c : a1 < 0
    · have := dd_le a1.natAbs (by omega)
      rw [itoa_neg' _ c, List.length_cons]; omega
    · have := dd_le a1.toNat (by omega)
      rw [itoa_pos' _ c]; omega
  · rw [if_neg (by omega), if_pos rfl]
    obtain ⟨v1, v2⟩ := valid_runes a2 h2
    have := escL_le _ v2
    rw [v1, ← size_len] at this
    rw [List.length_cons, List.length_append]
    show _ + 1 + 1 ≤ 2000
    omega
  · rw [if_neg (by omega), if_neg (by omega), if_pos rfl]
    rcases h1 with rfl | rfl
    · show 5 ≤ 2000; omega
    · show 4 ≤ 2000; omega
  · rw [if_neg (by omega), if_neg (by omega), if_neg (by omega)]
    unfold Go.Lib.bytesOf
    rw [List.length_map, List.length_append, List.length_append, hexL_len, ← size_len]
    show 2 + _ + 1 ≤ 2000
    omega
theorem textL_le (a0 a1 : Int) (a2 : ByteArray) (h : okV a0 a1 a2) : (textL a0 a1 a2).length ≤ 2000 := by
  unfold textL
  have h1 := szOf_pos a0.toNat
  have h2 := szOf_pos (foldN a1)
  have h3 := szOf_pos a2.size
  have h4 : a2.size ≤ 200 := by unfold okV at h; omega
  rw [List.length_append, encN_len]
  repeat' split
  · rw [encN_len]; omega
  · show _ + 1 ≤ 2000; omega
  · rw [List.length_append, encN_len, ← size_len]; omega
theorem eq_b (a b : ByteArray) (h : a.data.toList = b.data.toList) : (a.toList == b.toList) = true := by
  rw [ByteArray.toList_eq, ByteArray.toList_eq, h, beq_self_eq_true]
theorem back_j0 (a0 a1 : Int) (a2 x : ByteArray) (hx : x.size ≤ 2000) (h2 : a2.size ≤ 2000) : caduceuslaw03_ValueBack.j0 2000000 x false a0 a1 a2 = some true := by
  have aw := awake_ev 1999999 (by omega)
  rw [caduceuslaw03_ValueBack.j0, if_neg (by decide)]
  by_cases hv : okV a0 a1 a2
  · have hs := show_q a0 a1 a2 hv 1999999 (by omega)
    have hl := showL_le a0 a1 a2 hv
    have ht := vtext_q a0 a1 a2 hv 1999979
    have htl := textL_le a0 a1 a2 hv
    have e1 : ((⟨(showL a0 a1 a2).toArray⟩ : ByteArray) ++ (⟨#[32]⟩ : ByteArray) ++ x).data.toList = showL a0 a1 a2 ++ 32 :: x.data.toList := by
      rw [ByteArray.data_append, Array.toList_append, mk_cat, List.append_assoc]; rfl
    have z1 : ((⟨(showL a0 a1 a2).toArray⟩ : ByteArray) ++ (⟨#[32]⟩ : ByteArray)).size = (showL a0 a1 a2).length + 1 := by rw [ByteArray.size_append, mk_sz]; rfl
    have z2 : ((⟨(showL a0 a1 a2).toArray⟩ : ByteArray) ++ (⟨#[32]⟩ : ByteArray) ++ x).size = (showL a0 a1 a2).length + 1 + x.size := by rw [ByteArray.size_append, z1]
    obtain ⟨j, j1, j2, j3⟩ := scan_fwd _ (by rw [z2]; omega) a0 a1 a2 hv (32 :: x.data.toList) (dg_neg 32 _ (by decide)) (goes_blank _) e1
    have e3 : (⟨(showL a0 a1 a2).toArray⟩ : ByteArray).data.toList = showL a0 a1 a2 ++ [] := by rw [List.append_nil]
    obtain ⟨i, i1, i2, i3⟩ := scan_fwd _ (by rw [mk_sz]; omega) a0 a1 a2 hv [] rfl rfl e3
    have e4 : ((⟨(textL a0 a1 a2).toArray⟩ : ByteArray) ++ x).data.toList = textL a0 a1 a2 ++ x.data.toList := mk_cat _ _
    have z4 : ((⟨(textL a0 a1 a2).toArray⟩ : ByteArray) ++ x).size = (textL a0 a1 a2).length + x.size := by rw [ByteArray.size_append, mk_sz]
    obtain ⟨rest, r1, r2⟩ := read_fwd _ a0 a1 a2 hv x.data.toList e4
    rw [check_ok _ _ _ hv, Option.bind_some, if_pos rfl, hs, Option.bind_some, if_pos (by rw [mk_sz]; omega), if_pos (by rw [z1]; omega), scan_x _ (by rw [z2]; omega) 1999999 (by omega), j3, Option.bind_some, ht, Option.bind_some, if_pos (by rw [mk_sz]; omega), read_x _ (by rw [z4]; omega) 1999979, r2, Option.bind_some]
    unfold value_Parse.f
    rw [Option.bind_some, scan_x _ (by rw [mk_sz]; omega) 1999999 (by omega), i3, Option.bind_some]
    dsimp only
    have hn : ((⟨(showL a0 a1 a2).toArray⟩ : ByteArray).extract i (⟨(showL a0 a1 a2).toArray⟩ : ByteArray).size).toList = [] := by
      rw [ByteArray.toList_eq, U8.extract_toList, i1]
    rw [if_pos rfl, if_pos hn, Option.bind_some, aw, Option.bind_some, if_pos rfl, if_pos rfl, if_pos rfl]
    dsimp only
    rw [if_pos rfl]
    have hb : (a0 == a0 && (a1 == a1 && (a2.toList == a2.toList))) = true := by
      rw [beq_self_eq_true, beq_self_eq_true, beq_self_eq_true]; rfl
    rw [if_pos hb, if_pos hb, if_pos hb, if_pos (by omega)]
    have hq : (((⟨(showL a0 a1 a2).toArray⟩ : ByteArray) ++ (⟨#[32]⟩ : ByteArray) ++ x).extract j ((⟨(showL a0 a1 a2).toArray⟩ : ByteArray) ++ (⟨#[32]⟩ : ByteArray) ++ x).size).toList = ((⟨#[32]⟩ : ByteArray) ++ x).toList := by
      rw [ByteArray.toList_eq, ByteArray.toList_eq, U8.extract_toList, j1, ByteArray.data_append, Array.toList_append]; rfl
    rw [if_pos hq, eq_b rest x r1]
  · rw [check_no _ _ _ hv, Option.bind_some, if_neg (by decide), aw, Option.bind_some, if_pos rfl, show_no _ _ _ hv, Option.bind_some, (toList_nil _).2 rfl, if_pos rfl, vtext_no _ _ _ hv, Option.bind_some, (toList_nil _).2 rfl]
    rfl
theorem ValueBack (a0 a1 : Int) (a2 x : ByteArray) (hw : x.size ≤ 140737488351232) : ∃ k, caduceuslaw03_ValueBack.f k a0 a1 a2 x = some true := by
  refine ⟨2000000, ?_⟩
  unfold caduceuslaw03_ValueBack.f
  have aw := awake_ev 1999999 (by omega)
  have hj : caduceuslaw03_ValueBack.j0 2000000 x true a0 a1 a2 = some true := by
    rw [caduceuslaw03_ValueBack.j0, if_pos rfl, aw, Option.bind_some]
  unfold caduceuslaw03_few.f
  rw [Option.bind_some]
  by_cases h : (a2.size : Int) ≤ 2000
  · rw [if_pos (decide_eq_true h), Option.bind_some]
    by_cases h1 : (x.size : Int) ≤ 2000
    · rw [decide_eq_true h1]
      exact back_j0 a0 a1 a2 x (by omega) (by omega)
    · rw [decide_eq_false h1]
      exact hj
  · rw [if_neg (by rw [decide_eq_false h]; decide)]
    exact hj
end Go.Proofs.YtoajlmmkkcelgaaDoor.Pure
