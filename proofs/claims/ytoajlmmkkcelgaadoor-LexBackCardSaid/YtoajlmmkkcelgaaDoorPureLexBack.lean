import Derived.Lib.DecodeNEq
import Derived.Lib.ValidU
import Derived.Lib.MapLaws
import Derived.Lib.Bytes
import Derived.Test.YtoajlmmkkcelgaaDoorAx0
import Derived.Test.YtoajlmmkkcelgaaDoorAx4
import Derived.Test.YtoajlmmkkcelgaaDoorAx5
import Derived.Test.YtoajlmmkkcelgaaDoorAx6
import Derived.Test.YtoajlmmkkcelgaaDoorAx7
import Derived.Test.YtoajlmmkkcelgaaDoorAx8
import Derived.Test.YtoajlmmkkcelgaaDoorAx9
import Derived.Test.YtoajlmmkkcelgaaDoorAx10
import Derived.Test.YtoajlmmkkcelgaaDoorAx11
import Derived.Test.YtoajlmmkkcelgaaDoorAx12
import Derived.Test.YtoajlmmkkcelgaaDoorAx13
import Derived.Test.YtoajlmmkkcelgaaDoorAx15
import Derived.Test.YtoajlmmkkcelgaaDoorAx16
import Derived.Test.YtoajlmmkkcelgaaDoorAx17
import Derived.Test.YtoajlmmkkcelgaaDoorAx18
import Derived.Test.YtoajlmmkkcelgaaDoorAx19
import Derived.Test.YtoajlmmkkcelgaaDoorAx28
import Derived.Test.YtoajlmmkkcelgaaDoorAx29
import Derived.Test.YtoajlmmkkcelgaaDoorAx30
import Derived.Test.YtoajlmmkkcelgaaDoorAx43
import Derived.Test.YtoajlmmkkcelgaaDoorAx44
import Derived.Test.YtoajlmmkkcelgaaDoorAx50
namespace Go.Proofs.YtoajlmmkkcelgaaDoor.U8
open Go.RowKit Go.Proofs.YtoajlmmkkcelgaaDoorW.PrintWords Go.Proofs.YtoajlmmkkcelgaaDoorW.PrintLast Go.Lib
set_option linter.unusedVariables false
/-- Is a byte one that goes on? -/
def tl (n i b : Nat) : Prop := i < n ∧ 128 ≤ b ∧ b < 192
instance (n i b : Nat) : Decidable (tl n i b) := by unfold tl; exact inferInstance
/-- The rune at the front, and how many bytes it has; (0, 0): there is none. As the document defines it. -/
def decR (n b0 b1 b2 b3 : Nat) : Nat × Nat :=
  if n = 0 then (0, 0)
  else if b0 < 128 then (b0, 1)
  else if 194 ≤ b0 ∧ b0 < 224 ∧ tl n 1 b1 then (64 * (b0 - 192) + (b1 - 128), 2)
  else if 224 ≤ b0 ∧ b0 < 240 ∧ tl n 1 b1 ∧ tl n 2 b2 ∧ 2048 ≤ 4096 * (b0 - 224) + 64 * (b1 - 128) + (b2 - 128) ∧ (4096 * (b0 - 224) + 64 * (b1 - 128) + (b2 - 128) < 55296 ∨ 57343 < 4096 * (b0 - 224) + 64 * (b1 - 128) + (b2 - 128)) then (4096 * (b0 - 224) + 64 * (b1 - 128) + (b2 - 128), 3)
  else if 240 ≤ b0 ∧ b0 < 245 ∧ tl n 1 b1 ∧ tl n 2 b2 ∧ tl n 3 b3 ∧ 65536 ≤ 262144 * (b0 - 240) + 4096 * (b1 - 128) + 64 * (b2 - 128) + (b3 - 128) ∧ 262144 * (b0 - 240) + 4096 * (b1 - 128) + 64 * (b2 - 128) + (b3 - 128) ≤ 1114111 then (262144 * (b0 - 240) + 4096 * (b1 - 128) + 64 * (b2 - 128) + (b3 - 128), 4)
  else (0, 0)
set_option maxHeartbeats 4000000 in
set_option maxRecDepth 100000 in
theorem decR_decodeN (n b0 b1 b2 b3 : Nat) (hn : n ≠ 0) (h0 : b0 < 256) (h1 : b1 < 256) (h2 : b2 < 256) (h3 : b3 < 256) :
    decR n b0 b1 b2 b3 = if decodeN n b0 b1 b2 b3 = (65533, 1) then (0, 0) else decodeN n b0 b1 b2 b3 := by
  have fin : ∀ X Y : Nat × Nat, decR n b0 b1 b2 b3 = X → decodeN n b0 b1 b2 b3 = Y → (X = if Y = (65533, 1) then (0, 0) else Y) → decR n b0 b1 b2 b3 = if decodeN n b0 b1 b2 b3 = (65533, 1) then (0, 0) else decodeN n b0 b1 b2 b3 := by
    intro X Y e1 e2 e3; rw [e1, e2]; exact e3
  have bad : decR n b0 b1 b2 b3 = (0, 0) → decodeN n b0 b1 b2 b3 = (65533, 1) → decR n b0 b1 b2 b3 = if decodeN n b0 b1 b2 b3 = (65533, 1) then (0, 0) else decodeN n b0 b1 b2 b3 := fun e1 e2 => fin _ _ e1 e2 (by rw [if_pos rfl])
  have good : ∀ X : Nat × Nat, X.2 ≠ 1 ∨ X.1 ≠ 65533 → decR n b0 b1 b2 b3 = X → decodeN n b0 b1 b2 b3 = X → decR n b0 b1 b2 b3 = if decodeN n b0 b1 b2 b3 = (65533, 1) then (0, 0) else decodeN n b0 b1 b2 b3 := fun X h e1 e2 => fin _ _ e1 e2 (by
    rw [if_neg]; intro e; rw [e] at h; simp at h)
  by_cases c0 : b0 < 128
  · exact good (b0, 1) (.inr (by show b0 ≠ 65533; omega)) (by unfold decR; rw [if_neg hn, if_pos c0]) (by unfold decodeN; rw [if_pos c0])
  by_cases c1 : b0 < 192
  · exact bad (by unfold decR; rw [if_neg hn, if_neg c0, if_neg (by omega), if_neg (by omega), if_neg (by omega)]) (by unfold decodeN; rw [if_neg c0, if_neg (by omega), if_neg (by omega), if_neg (by omega)])
  by_cases c2 : b0 < 224
  · by_cases k : 194 ≤ b0 ∧ b0 < 224 ∧ tl n 1 b1
    · have k' := k
      unfold tl at k'
      refine good (64 * (b0 - 192) + (b1 - 128), 2) (.inl (by simp)) (by unfold decR; rw [if_neg hn, if_neg c0, if_pos k]) ?_
      unfold decodeN
      rw [if_neg c0, if_pos (by omega), if_pos (by omega)]
      exact Prod.ext (by show _ = _; omega) rfl
    · have k' := k
      unfold tl at k'
      refine bad (by unfold decR; rw [if_neg hn, if_neg c0, if_neg k, if_neg (by omega), if_neg (by omega)]) ?_
      unfold decodeN
      rw [if_neg c0]
      by_cases k2 : b0 / 32 = 6 ∧ 1 < n ∧ b1 / 64 = 2
      · rw [if_pos k2, if_neg (by omega)]
      · rw [if_neg k2, if_neg (by omega), if_neg (by omega)]
  by_cases c3 : b0 < 240
  · by_cases k : 224 ≤ b0 ∧ b0 < 240 ∧ tl n 1 b1 ∧ tl n 2 b2 ∧ 2048 ≤ 4096 * (b0 - 224) + 64 * (b1 - 128) + (b2 - 128) ∧ (4096 * (b0 - 224) + 64 * (b1 - 128) + (b2 - 128) < 55296 ∨ 57343 < 4096 * (b0 - 224) + 64 * (b1 - 128) + (b2 - 128))
    · have k' := k
      unfold tl at k'
      refine good (4096 * (b0 - 224) + 64 * (b1 - 128) + (b2 - 128), 3) (.inl (by simp)) (by unfold decR; rw [if_neg hn, if_neg c0, if_neg (by omega), if_pos k]) ?_
      unfold decodeN
      rw [if_neg c0, if_neg (by omega), if_pos (by omega), if_pos (by omega)]
      exact Prod.ext (by show _ = _; omega) rfl
    · have k' := k
      unfold tl at k'
      refine bad (by unfold decR; rw [if_neg hn, if_neg c0, if_neg (by omega), if_neg k, if_neg (by omega)]) ?_
      unfold decodeN
      rw [if_neg c0, if_neg (by omega)]
      by_cases k2 : b0 / 16 = 14 ∧ (1 < n ∧ b1 / 64 = 2) ∧ (2 < n ∧ b2 / 64 = 2)
      · rw [if_pos k2, if_neg (by omega)]
      · rw [if_neg k2, if_neg (by omega)]
  · by_cases k : 240 ≤ b0 ∧ b0 < 245 ∧ tl n 1 b1 ∧ tl n 2 b2 ∧ tl n 3 b3 ∧ 65536 ≤ 262144 * (b0 - 240) + 4096 * (b1 - 128) + 64 * (b2 - 128) + (b3 - 128) ∧ 262144 * (b0 - 240) + 4096 * (b1 - 128) + 64 * (b2 - 128) + (b3 - 128) ≤ 1114111
    · have k' := k
      unfold tl at k'
      refine good (262144 * (b0 - 240) + 4096 * (b1 - 128) + 64 * (b2 - 128) + (b3 - 128), 4) (.inl (by simp)) (by unfold decR; rw [if_neg hn, if_neg c0, if_neg (by omega), if_neg (by omega), if_pos k]) ?_
      unfold decodeN
      rw [if_neg c0, if_neg (by omega), if_neg (by omega), if_pos (by omega), if_pos (by omega)]
      exact Prod.ext (by show _ = _; omega) rfl
    · have k' := k
      unfold tl at k'
      refine bad (by unfold decR; rw [if_neg hn, if_neg c0, if_neg (by omega), if_neg (by omega), if_neg k]) ?_
      unfold decodeN
      rw [if_neg c0, if_neg (by omega), if_neg (by omega)]
      by_cases k2 : b0 / 8 = 30 ∧ (1 < n ∧ b1 / 64 = 2) ∧ (2 < n ∧ b2 / 64 = 2) ∧ (3 < n ∧ b3 / 64 = 2)
      · rw [if_pos k2, if_neg (by omega)]
      · rw [if_neg k2]
/-- Byte i of a list, as a number; 0 beyond its end. -/
def byt (l : List UInt8) (i : Nat) : Nat := (l.getD i 0).toNat
theorem byt_lt (l : List UInt8) (i : Nat) : byt l i < 256 := UInt8.toNat_lt _
def dec (l : List UInt8) : Nat × Nat := decR l.length (byt l 0) (byt l 1) (byt l 2) (byt l 3)
theorem get_byt (l : List UInt8) (i : Nat) : ((⟨l.toArray⟩ : ByteArray).get! i).toNat = byt l i := by
  unfold byt
  show (l.toArray[i]!).toNat = _
  by_cases h : i < l.length
  · simp [h, List.getD_eq_getElem?_getD]
  · simp [h, List.getD_eq_getElem?_getD]
    rfl
theorem decodeL_byt (l : List UInt8) : decodeL l = decodeN l.length (byt l 0) (byt l 1) (byt l 2) (byt l 3) := by
  unfold decodeL
  rw [decode_at]
  simp only [Nat.zero_add, get_byt]
  rfl
theorem dec_decodeL (l : List UInt8) (h : l ≠ []) : dec l = if decodeL l = (65533, 1) then (0, 0) else decodeL l := by
  rw [decodeL_byt]
  exact decR_decodeN _ _ _ _ _ (by simpa using h) (byt_lt _ _) (byt_lt _ _) (byt_lt _ _) (byt_lt _ _)
theorem bt_byt (s : ByteArray) (i : Int) : bt s i = (byt s.data.toList i.toNat : Int) := by
  unfold bt byt
  split
  · rename_i h
    have : i.toNat < s.data.toList.length := by rw [Array.length_toList]; exact h
    simp only [List.getD_eq_getElem?_getD, List.getElem?_eq_getElem this, Option.getD_some, Array.getElem_toList]
    rfl
  · rename_i h
    have : s.data.toList.length ≤ i.toNat := by rw [Array.length_toList]; exact Nat.not_lt.1 h
    simp [List.getD_eq_getElem?_getD, List.getElem?_eq_none this]
/-- Its width: none, or one to four, and no more than there are bytes. -/
theorem dec_width (l : List UInt8) : (dec l).2 ≤ 4 ∧ (dec l).2 ≤ l.length ∧ ((dec l).2 = 0 → (dec l).1 = 0) ∧ (dec l).1 ≤ 1114111 := by
  have h0 := byt_lt l 0
  have h1 := byt_lt l 1
  have h2 := byt_lt l 2
  have h3 := byt_lt l 3
  unfold dec decR tl
  repeat' split
  all_goals (refine ⟨?_, ?_, ?_, ?_⟩ <;> first | (simp only; omega) | (intro _; rfl) | (intro h; simp at h))
/-- Is a text UTF-8, from front to end? -/
def validF : Nat → List UInt8 → Bool
  | 0, l => l.isEmpty
  | f + 1, l => if l.isEmpty then true else if (dec l).2 = 0 then false else validF f (l.drop (dec l).2)
theorem validGoD_validF : ∀ (f : Nat) (l : List UInt8), l.length ≤ f → validGoD f l = validF f l
  | 0, l, h => by
    have : l = [] := List.eq_nil_of_length_eq_zero (by omega)
    subst this; rfl
  | f + 1, l, h => by
    by_cases hl : l = []
    · unfold validGoD validF; rw [if_pos hl, if_pos (by simp [hl])]
    · have e := dec_decodeL l hl
      have hw := dec_width l
      have hG : validGoD (f + 1) l = if (decodeL l).1 = 65533 ∧ (decodeL l).2 = 1 then false else validGoD f (l.drop (decodeL l).2) := by
        conv => lhs; unfold validGoD
        rw [if_neg hl]
      have hF : validF (f + 1) l = if (dec l).2 = 0 then false else validF f (l.drop (dec l).2) := by
        conv => lhs; unfold validF
        rw [if_neg (by simpa using hl)]
      rw [hG, hF]
      by_cases hb : decodeL l = (65533, 1)
      · rw [if_pos (by rw [hb]; exact ⟨rfl, rfl⟩), if_pos (by rw [e, if_pos hb])]
      · rw [if_neg hb] at e
        have hpos := decodeL_width l
        rw [if_neg (fun h => hb (Prod.ext h.1 h.2)), if_neg (by rw [e]; omega), e]
        refine validGoD_validF f _ ?_
        rw [List.length_drop]; omega
theorem validD_validF (l : List UInt8) : validD l = validF l.length l := validGoD_validF _ _ (Nat.le_refl _)
end Go.Proofs.YtoajlmmkkcelgaaDoor.U8
namespace Go.Proofs.YtoajlmmkkcelgaaDoor.U8
open Go.RowKit Go.Proofs.YtoajlmmkkcelgaaDoor.A Go.Proofs.YtoajlmmkkcelgaaDoorW.PrintWords Go.Proofs.YtoajlmmkkcelgaaDoorW.PrintLast Go.Lib
set_option linter.unusedVariables false
set_option linter.unusedSimpArgs false
theorem w64 {x : Int} (h0 : -9223372036854775808 ≤ x) (h1 : x ≤ 9223372036854775807) : wrap64 x = x := by unfold wrap64; omega
theorem toList_nil (s : ByteArray) : (s.toList = ([] : List UInt8)) ↔ s.size = 0 := by
  rw [ByteArray.toList_eq]
  constructor
  · intro h
    have := data_length s
    rw [h] at this
    exact this.symm
  · intro h
    exact List.eq_nil_of_length_eq_zero (by rw [data_length]; exact h)
theorem tail_tl (s : ByteArray) (i : Nat) (I : Int) (hi : I = i) : caduceusref02_tail.f s I = some (decide (tl s.size i (byt s.data.toList i))) := by
  subst hi
  unfold caduceusref02_tail.f
  have e := bt_byt s (i : Int)
  rw [Int.toNat_natCast] at e
  rw [e]
  by_cases h : i < s.size
  · rw [if_pos (by omega), if_pos (by omega)]
    by_cases h2 : 128 ≤ byt s.data.toList i
    · rw [if_pos (by omega)]
      exact congrArg some (by rw [decide_eq_decide]; unfold tl; omega)
    · rw [if_neg (by omega)]
      exact congrArg some (decide_eq_false (by unfold tl; omega)).symm
  · rw [if_neg (by omega)]
    exact congrArg some (decide_eq_false (by unfold tl; omega)).symm
theorem V3 (x0 x1 x2 : Nat) (a : 224 ≤ x0 ∧ x0 < 240) (b : 128 ≤ x1 ∧ x1 < 192) (c : 128 ≤ x2 ∧ x2 < 192) : wrap64 ((wrap64 ((wrap64 ((wrap64 (4096 * (wrap64 ((x0 : Int) - 224)))) + (wrap64 (64 * (wrap64 ((x1 : Int) - 128)))))) + (x2 : Int))) - 128) = ((4096 * (x0 - 224) + 64 * (x1 - 128) + (x2 - 128) : Nat) : Int) := by
  rw [w64 (x := (x0 : Int) - 224) (by omega) (by omega), w64 (x := (x1 : Int) - 128) (by omega) (by omega), w64 (x := 4096 * ((x0 : Int) - 224)) (by omega) (by omega), w64 (x := 64 * ((x1 : Int) - 128)) (by omega) (by omega), w64 (x := 4096 * ((x0 : Int) - 224) + 64 * ((x1 : Int) - 128)) (by omega) (by omega), w64 (x := 4096 * ((x0 : Int) - 224) + 64 * ((x1 : Int) - 128) + x2) (by omega) (by omega), w64 (by omega) (by omega)]
  omega
theorem V4 (x0 x1 x2 x3 : Nat) (a : 240 ≤ x0 ∧ x0 < 245) (b : 128 ≤ x1 ∧ x1 < 192) (c : 128 ≤ x2 ∧ x2 < 192) (d : 128 ≤ x3 ∧ x3 < 192) : wrap64 ((wrap64 ((wrap64 ((wrap64 ((wrap64 (262144 * (wrap64 ((x0 : Int) - 240)))) + (wrap64 (4096 * (wrap64 ((x1 : Int) - 128)))))) + (wrap64 (64 * (wrap64 ((x2 : Int) - 128)))))) + (x3 : Int))) - 128) = ((262144 * (x0 - 240) + 4096 * (x1 - 128) + 64 * (x2 - 128) + (x3 - 128) : Nat) : Int) := by
  rw [w64 (x := (x0 : Int) - 240) (by omega) (by omega), w64 (x := (x1 : Int) - 128) (by omega) (by omega), w64 (x := (x2 : Int) - 128) (by omega) (by omega), w64 (x := 262144 * ((x0 : Int) - 240)) (by omega) (by omega), w64 (x := 4096 * ((x1 : Int) - 128)) (by omega) (by omega), w64 (x := 64 * ((x2 : Int) - 128)) (by omega) (by omega), w64 (x := 262144 * ((x0 : Int) - 240) + 4096 * ((x1 : Int) - 128)) (by omega) (by omega), w64 (x := 262144 * ((x0 : Int) - 240) + 4096 * ((x1 : Int) - 128) + 64 * ((x2 : Int) - 128)) (by omega) (by omega), w64 (x := 262144 * ((x0 : Int) - 240) + 4096 * ((x1 : Int) - 128) + 64 * ((x2 : Int) - 128) + x3) (by omega) (by omega), w64 (by omega) (by omega)]
  omega
theorem first_dec (s : ByteArray) (k : Nat) : caduceusref02_First.f (k + 5) s = some (((dec s.data.toList).1 : Int), ((dec s.data.toList).2 : Int)) := by
  have e0 : bt s 0 = byt s.data.toList 0 := bt_byt s 0
  have e1 : bt s 1 = byt s.data.toList 1 := bt_byt s 1
  have e2 : bt s 2 = byt s.data.toList 2 := bt_byt s 2
  have e3 : bt s 3 = byt s.data.toList 3 := bt_byt s 3
  have b0 := byt_lt s.data.toList 0
  have b1 := byt_lt s.data.toList 1
  have b2 := byt_lt s.data.toList 2
  have b3 := byt_lt s.data.toList 3
  have t1 := tail_tl s 1 1 rfl
  have t2 := tail_tl s 2 2 rfl
  have t3 := tail_tl s 3 3 rfl
  unfold dec
  rw [data_length]
  simp only [caduceusref02_First.f, caduceusref02_First.j0, caduceusref02_First.j1, caduceusref02_First.j2, caduceusref02_First.j3, t1, t2, t3, e0, e1, e2, e3, toList_nil, Option.bind_some, decide_eq_true_eq]
  clear e0 e1 e2 e3 t1 t2 t3
  generalize byt s.data.toList 0 = x0 at *
  generalize byt s.data.toList 1 = x1 at *
  generalize byt s.data.toList 2 = x2 at *
  generalize byt s.data.toList 3 = x3 at *
  generalize s.size = n at *
  have w0 : wrap64 (x0 : Int) = x0 := w64 (by omega) (by omega)
  have w1 : wrap64 (x1 : Int) = x1 := w64 (by omega) (by omega)
  have w2 : wrap64 (x2 : Int) = x2 := w64 (by omega) (by omega)
  have w3 : wrap64 (x3 : Int) = x3 := w64 (by omega) (by omega)
  simp only [w0, w1, w2, w3]
  clear w0 w1 w2 w3
  by_cases c : n = 0
  · rw [if_pos c]; unfold decR; rw [if_pos c]; rfl
  rw [if_neg c, if_pos (by omega)]
  by_cases c0 : x0 < 128
  · rw [if_pos (by omega)]; unfold decR; rw [if_neg c, if_pos c0]; rfl
  rw [if_neg (by omega)]
  by_cases c2 : x0 < 224
  · have n1 : ¬ (224 : Int) ≤ x0 := by omega
    have n2 : ¬ (240 : Int) ≤ x0 := by omega
    have n3 : (x0 : Int) < 224 := by omega
    by_cases k : 194 ≤ x0 ∧ tl n 1 x1
    · have k' := k.2
      unfold tl at k'
      have hR : decR n x0 x1 x2 x3 = (64 * (x0 - 192) + (x1 - 128), 2) := by
        unfold decR; rw [if_neg c, if_neg c0, if_pos ⟨k.1, c2, k.2⟩]
      rw [hR, if_pos (by omega), if_pos (by omega), if_pos k.2, if_pos (by omega)]
      rw [w64 (by omega) (by omega : ((x0 : Int) - 192) ≤ _), w64 (x := 64 * ((x0 : Int) - 192)) (by omega) (by omega), w64 (x := 64 * ((x0 : Int) - 192) + x1) (by omega) (by omega), w64 (x := 64 * ((x0 : Int) - 192) + x1 - 128) (by omega) (by omega)]
      exact congrArg some (Prod.ext (by show _ = _; simp only; omega) rfl)
    · have hR : decR n x0 x1 x2 x3 = (0, 0) := by
        unfold decR; rw [if_neg c, if_neg c0, if_neg (fun h => k ⟨h.1, h.2.2⟩), if_neg (fun h => absurd h.1 (by omega)), if_neg (fun h => absurd h.1 (by omega))]
      rw [hR]
      by_cases h1 : (194 : Int) ≤ x0
      · have h2 : ¬ tl n 1 x1 := fun h => k ⟨by omega, h⟩
        simp only [ge_iff_le, h1, h2, n1, n2, n3, if_true, if_false, Bool.false_eq_true]
        rfl
      · simp only [ge_iff_le, h1, n1, n2, if_true, if_false, Bool.false_eq_true]
        rfl
  have n0 : (194 : Int) ≤ x0 := by omega
  have n1 : (224 : Int) ≤ x0 := by omega
  have n3 : ¬ (x0 : Int) < 224 := by omega
  by_cases c3 : x0 < 240
  · have n2 : ¬ (240 : Int) ≤ x0 := by omega
    have n4 : (x0 : Int) < 240 := by omega
    simp only [ge_iff_le, n0, n1, n2, n3, n4, if_true, if_false, Bool.false_eq_true]
    by_cases k : tl n 1 x1 ∧ tl n 2 x2
    · have k1 := k.1
      have k2 := k.2
      unfold tl at k1 k2
      simp only [k.1, k.2, if_true]
      rw [if_pos (by omega), if_pos (by omega), V3 x0 x1 x2 (by omega) k1.2 k2.2]
      by_cases q : 2048 ≤ 4096 * (x0 - 224) + 64 * (x1 - 128) + (x2 - 128) ∧ (4096 * (x0 - 224) + 64 * (x1 - 128) + (x2 - 128) < 55296 ∨ 57343 < 4096 * (x0 - 224) + 64 * (x1 - 128) + (x2 - 128))
      · have hR : decR n x0 x1 x2 x3 = (4096 * (x0 - 224) + 64 * (x1 - 128) + (x2 - 128), 3) := by
          unfold decR; rw [if_neg c, if_neg c0, if_neg (by omega), if_pos ⟨by omega, c3, k.1, k.2, q⟩]
        rw [hR, if_pos (by omega)]
        by_cases q2 : 4096 * (x0 - 224) + 64 * (x1 - 128) + (x2 - 128) < 55296
        · rw [if_pos (by omega)]; rfl
        · rw [if_neg (by omega), if_pos (by omega)]; rfl
      · have hR : decR n x0 x1 x2 x3 = (0, 0) := by
          unfold decR; rw [if_neg c, if_neg c0, if_neg (by omega), if_neg (fun h => q h.2.2.2.2), if_neg (by omega)]
        rw [hR]
        by_cases q2 : 2048 ≤ 4096 * (x0 - 224) + 64 * (x1 - 128) + (x2 - 128)
        · rw [if_pos (by omega), if_neg (by omega), if_neg (by omega)]; rfl
        · rw [if_neg (by omega)]; rfl
    · have hR : decR n x0 x1 x2 x3 = (0, 0) := by
        unfold decR; rw [if_neg c, if_neg c0, if_neg (by omega), if_neg (fun h => k ⟨h.2.2.1, h.2.2.2.1⟩), if_neg (by omega)]
      rw [hR]
      by_cases h1 : tl n 1 x1
      · have h2 : ¬ tl n 2 x2 := fun h => k ⟨h1, h⟩
        simp only [h1, h2, if_true, if_false]; rfl
      · simp only [h1, if_true, if_false, Bool.false_eq_true]; rfl
  have n2 : (240 : Int) ≤ x0 := by omega
  have n4 : ¬ (x0 : Int) < 240 := by omega
  simp only [ge_iff_le, n0, n1, n2, n3, n4, if_true, if_false, Bool.false_eq_true]
  by_cases c4 : x0 < 245
  · have n5 : (x0 : Int) < 245 := by omega
    simp only [n5, if_true]
    by_cases k : tl n 1 x1 ∧ tl n 2 x2 ∧ tl n 3 x3
    · have k1 := k.1
      have k2 := k.2.1
      have k3 := k.2.2
      unfold tl at k1 k2 k3
      simp only [k.1, k.2.1, k.2.2, if_true]
      rw [if_pos (by omega), if_pos (by omega), if_pos (by omega), V4 x0 x1 x2 x3 (by omega) k1.2 k2.2 k3.2]
      by_cases q : 65536 ≤ 262144 * (x0 - 240) + 4096 * (x1 - 128) + 64 * (x2 - 128) + (x3 - 128) ∧ 262144 * (x0 - 240) + 4096 * (x1 - 128) + 64 * (x2 - 128) + (x3 - 128) ≤ 1114111
      · have hR : decR n x0 x1 x2 x3 = (262144 * (x0 - 240) + 4096 * (x1 - 128) + 64 * (x2 - 128) + (x3 - 128), 4) := by
          unfold decR; rw [if_neg c, if_neg c0, if_neg (by omega), if_neg (by omega), if_pos ⟨by omega, c4, k.1, k.2.1, k.2.2, q⟩]
        rw [hR, if_pos (by omega), if_pos (by omega)]; rfl
      · have hR : decR n x0 x1 x2 x3 = (0, 0) := by
          unfold decR; rw [if_neg c, if_neg c0, if_neg (by omega), if_neg (by omega), if_neg (fun h => q h.2.2.2.2.2)]
        rw [hR]
        by_cases q2 : 65536 ≤ 262144 * (x0 - 240) + 4096 * (x1 - 128) + 64 * (x2 - 128) + (x3 - 128)
        · rw [if_pos (by omega), if_neg (by omega)]; rfl
        · rw [if_neg (by omega)]; rfl
    · have hR : decR n x0 x1 x2 x3 = (0, 0) := by
        unfold decR; rw [if_neg c, if_neg c0, if_neg (by omega), if_neg (by omega), if_neg (fun h => k ⟨h.2.2.1, h.2.2.2.1, h.2.2.2.2.1⟩)]
      rw [hR]
      by_cases h1 : tl n 1 x1
      · by_cases h2 : tl n 2 x2
        · have h3 : ¬ tl n 3 x3 := fun h => k ⟨h1, h2, h⟩
          simp only [h1, h2, h3, if_true, if_false]; rfl
        · simp only [h1, h2, if_true, if_false, Bool.false_eq_true]; rfl
      · simp only [h1, if_true, if_false, Bool.false_eq_true]; rfl
  · have n5 : ¬ (x0 : Int) < 245 := by omega
    have hR : decR n x0 x1 x2 x3 = (0, 0) := by
      unfold decR; rw [if_neg c, if_neg c0, if_neg (by omega), if_neg (by omega), if_neg (by omega)]
    rw [hR]
    simp only [n5, if_false, Bool.false_eq_true]; rfl
theorem extract_toList (s : ByteArray) (i : Nat) : (s.extract i s.size).data.toList = s.data.toList.drop i := by
  have e : s.size = s.data.toList.length := (Array.length_toList).symm
  rw [ByteArray.data_extract, Array.toList_extract, e]
  simp [List.extract]
  exact List.take_of_length_le (by rw [List.length_drop]; omega)
theorem byt_drop (l : List UInt8) (i j : Nat) : byt (l.drop i) j = byt l (i + j) := by
  unfold byt
  rw [List.getD_eq_getElem?_getD, List.getD_eq_getElem?_getD, List.getElem?_drop]
theorem size_len (b : ByteArray) : b.size = b.data.toList.length := (Array.length_toList).symm
end Go.Proofs.YtoajlmmkkcelgaaDoor.U8
namespace Go.Proofs.YtoajlmmkkcelgaaDoor.U8
open Go.RowKit Go.Proofs.YtoajlmmkkcelgaaDoor.A Go.Proofs.YtoajlmmkkcelgaaDoorW.PrintWords Go.Proofs.YtoajlmmkkcelgaaDoorW.PrintLast Go.Lib
set_option linter.unusedVariables false
set_option linter.unusedSimpArgs false
/-- A letter, as the document says. -/
def letB (c : Int) : Bool := (65 ≤ c && c ≤ 90) || (97 ≤ c && c ≤ 122) || (192 ≤ c && c ≤ 591 && c != 215 && c != 247) || (913 ≤ c && c ≤ 937 && c != 930) || (945 ≤ c && c ≤ 969) || (1040 ≤ c && c ≤ 1103) || (19968 ≤ c && c ≤ 40959)
theorem letter_q (c : Int) (k : Nat) : name_Letter.f (k + 1) c = some (letB c) := by
  by_cases e1 : c = 215
  · subst e1; rfl
  by_cases e2 : c = 247
  · subst e2; rfl
  by_cases e3 : c = 930
  · subst e3; rfl
  have n1 : (c = 215) = False := eq_false e1
  have m1 : (c != 215) = true := bne_iff_ne.2 e1
  have m2 : (c != 247) = true := bne_iff_ne.2 e2
  have m3 : (c != 930) = true := bne_iff_ne.2 e3
  have cs : c < 65 ∨ (65 ≤ c ∧ c < 91) ∨ (91 ≤ c ∧ c < 97) ∨ (97 ≤ c ∧ c < 123) ∨ (123 ≤ c ∧ c < 192) ∨ (192 ≤ c ∧ c < 592) ∨ (592 ≤ c ∧ c < 913) ∨ (913 ≤ c ∧ c < 938) ∨ (938 ≤ c ∧ c < 945) ∨ (945 ≤ c ∧ c < 970) ∨ (970 ≤ c ∧ c < 1040) ∨ (1040 ≤ c ∧ c < 1104) ∨ (1104 ≤ c ∧ c < 19968) ∨ (19968 ≤ c ∧ c < 40960) ∨ 40960 ≤ c := by omega
  rcases cs with h | h | h | h | h | h | h | h | h | h | h | h | h | h | h
  all_goals (
    (first | have l65 : (65 ≤ c) = True := eq_true (by omega) | have l65 : (65 ≤ c) = False := eq_false (by omega)); (first | have u90 : (c ≤ 90) = True := eq_true (by omega) | have u90 : (c ≤ 90) = False := eq_false (by omega));
    (first | have l97 : (97 ≤ c) = True := eq_true (by omega) | have l97 : (97 ≤ c) = False := eq_false (by omega)); (first | have u122 : (c ≤ 122) = True := eq_true (by omega) | have u122 : (c ≤ 122) = False := eq_false (by omega));
    (first | have l192 : (192 ≤ c) = True := eq_true (by omega) | have l192 : (192 ≤ c) = False := eq_false (by omega)); (first | have u591 : (c ≤ 591) = True := eq_true (by omega) | have u591 : (c ≤ 591) = False := eq_false (by omega));
    (first | have l913 : (913 ≤ c) = True := eq_true (by omega) | have l913 : (913 ≤ c) = False := eq_false (by omega)); (first | have u937 : (c ≤ 937) = True := eq_true (by omega) | have u937 : (c ≤ 937) = False := eq_false (by omega));
    (first | have l945 : (945 ≤ c) = True := eq_true (by omega) | have l945 : (945 ≤ c) = False := eq_false (by omega)); (first | have u969 : (c ≤ 969) = True := eq_true (by omega) | have u969 : (c ≤ 969) = False := eq_false (by omega));
    (first | have l1040 : (1040 ≤ c) = True := eq_true (by omega) | have l1040 : (1040 ≤ c) = False := eq_false (by omega)); (first | have u1103 : (c ≤ 1103) = True := eq_true (by omega) | have u1103 : (c ≤ 1103) = False := eq_false (by omega));
    (first | have l19968 : (19968 ≤ c) = True := eq_true (by omega) | have l19968 : (19968 ≤ c) = False := eq_false (by omega)); (first | have u40959 : (c ≤ 40959) = True := eq_true (by omega) | have u40959 : (c ≤ 40959) = False := eq_false (by omega))
    )
  all_goals simp only [name_Letter.f, name_Letter.j0, name_between.f, letB, ge_iff_le, n1, m1, m2, m3, l65, u90, l97, u122, l192, u591, l913, u937, l945, u969, l1040, u1103, l19968, u40959, Option.bind_some, if_true, if_false, decide_true, decide_false, Bool.and_true, Bool.and_false, Bool.true_and, Bool.false_and, Bool.or_true, Bool.or_false, Bool.true_or, Bool.false_or, Bool.false_eq_true]
theorem decGo (s : ByteArray) (h : s.size ≠ 0) : Lib.decodeGo s = decodeL s.data.toList := by
  unfold Lib.decodeGo decodeL
  rw [if_neg h]
def wordB (c : Int) : Bool := letB c || (c == 95 || (c == 45 || (decide (48 ≤ c) && decide (c ≤ 57))))
/-- Does a word go on at the front? -/
def goesB (l : List UInt8) : Bool := if (dec l).2 = 0 then false else wordB (dec l).1
theorem word_if (c : Int) : (if letB c = true then some true else (if c = 95 then some true else (if c = 45 then some true else (if c ≥ 48 then some (decide (c ≤ 57)) else some false)))) = some (wordB c) := by
  unfold wordB
  by_cases h1 : letB c = true
  · simp [h1]
  by_cases h2 : c = 95
  · simp [h2]
  by_cases h3 : c = 45
  · simp [h3]
  by_cases h4 : c ≥ 48
  · have : decide (48 ≤ c) = true := decide_eq_true h4
    have b2 : (c == 95) = false := beq_eq_false_iff_ne.mpr h2
    have b3 : (c == 45) = false := beq_eq_false_iff_ne.mpr h3
    simp [h1, h2, h3, h4, this, b2, b3]
  · have : decide (48 ≤ c) = false := decide_eq_false h4
    have b2 : (c == 95) = false := beq_eq_false_iff_ne.mpr h2
    have b3 : (c == 45) = false := beq_eq_false_iff_ne.mpr h3
    simp [h1, h2, h3, h4, this, b2, b3]
theorem goes_q (s : ByteArray) (k : Nat) : value_goesOn.f (k + 1) s = some (goesB s.data.toList) := by
  unfold value_goesOn.f utf8_DecodeRuneInString.f goesB
  simp only [Option.bind_some, letter_q, word_if]
  by_cases hz : s.size = 0
  · have e : Lib.decodeGo s = (65533, 0) := by unfold Lib.decodeGo; rw [if_pos hz]
    have e2 : s.data.toList = [] := List.eq_nil_of_length_eq_zero (by rw [data_length]; exact hz)
    rw [e, e2]; rfl
  · rw [decGo s hz]
    have hne : s.data.toList ≠ [] := by intro h; rw [← ByteArray.toList_eq] at h; exact hz ((toList_nil s).1 h)
    have e := dec_decodeL s.data.toList hne
    have hw := decodeL_width s.data.toList
    by_cases hb : decodeL s.data.toList = (65533, 1)
    · rw [if_pos hb] at e
      rw [hb, e]; rfl
    · rw [if_neg hb] at e
      rw [e, if_pos (by omega), if_neg (by omega)]
/-- Does a text begin with another one? -/
def preB (s p : ByteArray) : Bool := if p.size ≤ s.size then (s.extract 0 p.size).toList == p.toList else false
theorem pre_q (s p : ByteArray) : strings_HasPrefix.f s p = some (preB s p) := by
  unfold strings_HasPrefix.f stringslite_HasPrefix.f preB
  by_cases h : p.size ≤ s.size
  · simp only [show (s.size : Int) ≥ (p.size : Int) by omega, show (0 : Int) ≤ (p.size : Int) by omega, show (p.size : Int) ≤ (s.size : Int) by omega, h, if_true, Int.toNat_natCast, Option.bind_some]
  · simp only [show ¬ (s.size : Int) ≥ (p.size : Int) by omega, h, if_false, Option.bind_some]
theorem pre_l (s p : ByteArray) : stringslite_HasPrefix.f s p = some (preB s p) := by
  have := pre_q s p
  unfold strings_HasPrefix.f at this
  cases h : stringslite_HasPrefix.f s p with
  | none => rw [h] at this; cases this
  | some x => rw [h] at this; exact this
theorem pre_size {s p : ByteArray} (h : preB s p = true) : p.size ≤ s.size := by
  unfold preB at h
  by_cases c : p.size ≤ s.size
  · exact c
  · rw [if_neg c] at h; cases h
theorem pre_byte {s p : ByteArray} (h : preB s p = true) (hp : p.size ≠ 0) : byt s.data.toList 0 = byt p.data.toList 0 := by
  have hs := pre_size h
  unfold preB at h
  rw [if_pos hs, beq_iff_eq, ByteArray.toList_eq, ByteArray.toList_eq, ByteArray.data_extract, Array.toList_extract] at h
  have e : (s.data.toList.extract 0 p.size) = s.data.toList.take p.size := by simp [List.extract]
  rw [e] at h
  rw [← h]
  unfold byt
  cases hl : s.data.toList with
  | nil => simp
  | cons b t =>
    obtain ⟨n, hn⟩ : ∃ n, p.size = n + 1 := ⟨p.size - 1, by omega⟩
    rw [hn]; rfl
theorem cut_q (s p : ByteArray) : strings_CutPrefix.f s p = some (if preB s p = true then (s.extract p.size s.size, true) else (s, false)) := by
  unfold strings_CutPrefix.f stringslite_CutPrefix.f
  rw [pre_l]
  simp only [Option.bind_some]
  by_cases h : preB s p = true
  · have hs := pre_size h
    rw [if_pos h, if_pos h, if_pos (by omega), if_pos (by omega)]; rfl
  · rw [if_neg h, if_neg h]; rfl
def wTrue : ByteArray := ⟨#[116, 114, 117, 101]⟩
def wFalse : ByteArray := ⟨#[102, 97, 108, 115, 101]⟩
/-- A bool's literal at the front: what stands there. -/
def boolS (s : ByteArray) : Int × Int × ByteArray × ByteArray × Int :=
  if preB s wTrue = true ∧ goesB (s.data.toList.drop 4) = false then (3, 1, ⟨#[]⟩, s.extract 4 s.size, 0)
  else if preB s wFalse = true ∧ goesB (s.data.toList.drop 5) = false then (3, 0, ⟨#[]⟩, s.extract 5 s.size, 0)
  else (0, 0, ⟨#[]⟩, ⟨#[]⟩, 3)
theorem bool_q (s : ByteArray) (k : Nat) : value_boolean.f (k + 4) s = some (boolS s) := by
  have w1 : wrap64 (0 + 1) = 1 := by unfold wrap64; omega
  have w2 : wrap64 (1 + 1) = 2 := by unfold wrap64; omega
  have l2 : (([(⟨#[102, 97, 108, 115, 101]⟩ : ByteArray), (⟨#[116, 114, 117, 101]⟩ : ByteArray)] : List ByteArray).length : Int) = 2 := rfl
  have r0 : rdOf ByteArray.empty [(⟨#[102, 97, 108, 115, 101]⟩ : ByteArray), (⟨#[116, 114, 117, 101]⟩ : ByteArray)] 0 = wFalse := rfl
  have r1 : rdOf ByteArray.empty [(⟨#[102, 97, 108, 115, 101]⟩ : ByteArray), (⟨#[116, 114, 117, 101]⟩ : ByteArray)] 1 = wTrue := rfl
  have z4 : wTrue.size = 4 := rfl
  have z5 : wFalse.size = 5 := rfl
  have end_ : ∀ l, value_boolean.l0 (k + 2) s l 2 2 = some (0, 0, ⟨#[]⟩, ⟨#[]⟩, 3) := fun l => by rw [value_boolean.l0, if_neg (by omega)]
  have two : value_boolean.l0 (k + 3) s [(⟨#[102, 97, 108, 115, 101]⟩ : ByteArray), (⟨#[116, 114, 117, 101]⟩ : ByteArray)] 2 1 = some (if preB s wTrue = true ∧ goesB (s.data.toList.drop 4) = false then (3, 1, ⟨#[]⟩, s.extract 4 s.size, 0) else (0, 0, ⟨#[]⟩, ⟨#[]⟩, 3)) := by
    rw [value_boolean.l0, l2, if_pos (by omega), if_pos (by omega), if_pos (by omega), r1, cut_q]
    simp only [Option.bind_some]
    by_cases h : preB s wTrue = true
    · simp only [h, if_true, true_and, z4]
      rw [show k + 2 = k + 1 + 1 by omega, goes_q, extract_toList]
      simp only [Option.bind_some]
      by_cases g : goesB (s.data.toList.drop 4) = true
      · rw [if_pos g, w2, end_, if_neg (by simp [g])]
      · rw [if_neg g, if_pos (by simpa using g)]
    · simp only [h, if_false, false_and, Bool.false_eq_true]
      rw [w2, end_]
  unfold value_boolean.f boolS
  simp only [Option.bind_some]
  rw [value_boolean.l0, l2, if_pos (by omega), if_pos (by omega), if_pos (by omega), r0, cut_q]
  simp only [Option.bind_some]
  by_cases h : preB s wFalse = true
  · have hn : ¬ preB s wTrue = true := fun h2 => by
      have e1 := pre_byte h (by decide)
      have e2 := pre_byte h2 (by decide)
      rw [e1] at e2
      exact absurd e2 (by decide)
    simp only [h, if_true, true_and, z5, hn, if_false, false_and]
    rw [show k + 3 = k + 2 + 1 by omega, goes_q, extract_toList]
    simp only [Option.bind_some]
    by_cases g : goesB (s.data.toList.drop 5) = true
    · rw [if_pos g, w1, two]
      simp [hn, g]
    · have g' : goesB (s.data.toList.drop 5) = false := by simpa using g
      rw [if_neg g]
      simp [g']
  · simp only [h, if_false, false_and, Bool.false_eq_true]
    rw [w1, two]
end Go.Proofs.YtoajlmmkkcelgaaDoor.U8
namespace Go.Proofs.YtoajlmmkkcelgaaDoor.U8
open Go.RowKit Go.Proofs.YtoajlmmkkcelgaaDoor.A Go.Proofs.YtoajlmmkkcelgaaDoorW.PrintWords Go.Proofs.YtoajlmmkkcelgaaDoorW.PrintLast Go.Lib
set_option linter.unusedVariables false
set_option linter.unusedSimpArgs false
/-- How many digits stand at the front, and the number that they are. -/
def dg : List UInt8 → Nat
  | [] => 0
  | b :: l => if 48 ≤ b.toNat ∧ b.toNat ≤ 57 then dg l + 1 else 0
@[irreducible] def dv (a : Nat) (b : UInt8) : Nat := a * 10 + (b.toNat - 48)
theorem dv_eq (a : Nat) (b : UInt8) : dv a b = a * 10 + (b.toNat - 48) := by unfold dv; rfl
def nv (a : Nat) : List UInt8 → Nat
  | [] => a
  | b :: l => nv (dv a b) l
theorem dg_le : ∀ l, dg l ≤ l.length
  | [] => Nat.le_refl _
  | b :: l => by
    unfold dg
    have := dg_le l
    split
    · simp only [List.length_cons]; omega
    · omega
theorem nv_cons (a : Nat) (b : UInt8) (l : List UInt8) : nv a (b :: l) = nv (dv a b) l := rfl
theorem decF_cons (a : Nat) (b : UInt8) (l : List UInt8) (h : 48 ≤ b.toNat ∧ b.toNat ≤ 57) : decFrom a (b :: l) = decFrom (a * 10 + (b.toNat - 48)) l := by
  simp only [decFrom, digitVal, if_pos h]
theorem dg_pos (b : UInt8) (l : List UInt8) (h : 48 ≤ b.toNat ∧ b.toNat ≤ 57) : dg (b :: l) = dg l + 1 := by
  simp only [dg, if_pos h]
theorem dg_neg (b : UInt8) (l : List UInt8) (h : ¬ (48 ≤ b.toNat ∧ b.toNat ≤ 57)) : dg (b :: l) = 0 := by
  simp only [dg, if_neg h]
theorem dec_nv : ∀ (l : List UInt8) (a : Nat), decFrom a (l.take (dg l)) = some (nv a (l.take (dg l)))
  | [], a => rfl
  | b :: l, a => by
    by_cases h : 48 ≤ b.toNat ∧ b.toNat ≤ 57
    · rw [dg_pos b l h, List.take_succ_cons, decF_cons _ _ _ h, nv_cons, dv_eq]
      exact dec_nv l _
    · rw [dg_neg b l h]; rfl
theorem drop_at (l : List UInt8) (i : Nat) (h : i < l.length) : ∃ b, l.drop i = b :: l.drop (i + 1) ∧ byt l i = b.toNat := by
  refine ⟨l[i], List.drop_eq_getElem_cons h, ?_⟩
  unfold byt
  rw [List.getD_eq_getElem?_getD, List.getElem?_eq_getElem h]; rfl
theorem btq (s : ByteArray) (i : Nat) : bt s (i : Int) = (byt s.data.toList i : Int) := by
  have := bt_byt s (i : Int)
  rwa [Int.toNat_natCast] at this
theorem digits_l0 (s : ByteArray) (hs : s.size < 1000000) (k : Nat) : ∀ (m i : Nat), i ≤ s.size → s.size - i ≤ m → value_digits.l0 (k + m + 1) s (i : Int) = some ((i + dg (s.data.toList.drop i) : Nat) : Int)
  | m, i, h1, h2 => by
    have hl : s.data.toList.length = s.size := data_length s
    by_cases hi : i = s.size
    · rw [List.drop_of_length_le (by omega), value_digits.l0, if_neg (by omega)]; rfl
    · obtain ⟨m, rfl⟩ : ∃ q, m = q + 1 := ⟨m - 1, by omega⟩
      obtain ⟨b, hd, hb⟩ := drop_at s.data.toList i (by omega)
      have hlt := byt_lt s.data.toList i
      rw [value_digits.l0, if_pos (by omega), if_pos (by omega), btq, hd]
      unfold dg
      rw [← hb]
      by_cases h : 48 ≤ byt s.data.toList i ∧ byt s.data.toList i ≤ 57
      · rw [if_pos (by omega), if_pos (by omega), if_pos h, w64 (by omega) (by omega), show (i : Int) + 1 = ((i + 1 : Nat) : Int) by omega, show k + (m + 1) = k + m + 1 by omega, digits_l0 s hs k m (i + 1) (by omega) (by omega)]
        exact congrArg some (by omega)
      · rw [if_neg h]
        by_cases h3 : 48 ≤ byt s.data.toList i
        · rw [if_pos (by omega), if_neg (by omega)]; rfl
        · rw [if_neg (by omega)]; rfl
/-- What an integer's literal at the front is: the sign's place, how many digits, their number. -/
def intR (s : ByteArray) (at_ cnt n : Nat) : Int × Int × ByteArray × ByteArray × Int :=
  if cnt = 0 then (0, 0, ⟨#[]⟩, ⟨#[]⟩, 3)
  else if byt s.data.toList at_ = 48 ∧ (1 < cnt ∨ at_ = 1) then (0, 0, ⟨#[]⟩, ⟨#[]⟩, 3)
  else if 16 < cnt ∨ 9007199254740991 < n then (0, 0, ⟨#[]⟩, ⟨#[]⟩, 2)
  else (1, if at_ = 1 then -(n : Int) else (n : Int), ⟨#[]⟩, s.extract (at_ + cnt) s.size, 0)
/-- Is there a sign? -/
def sg (s : ByteArray) : Nat := if byt s.data.toList 0 = 45 then 1 else 0
theorem pre_one (s : ByteArray) (hz : s.size ≠ 0) (c : UInt8) : preB s ⟨#[c]⟩ = true ↔ byt s.data.toList 0 = c.toNat := by
  unfold preB
  have z : (⟨#[c]⟩ : ByteArray).size = 1 := rfl
  rw [z, if_pos (by omega), beq_iff_eq, ByteArray.toList_eq, ByteArray.toList_eq, ByteArray.data_extract, Array.toList_extract]
  have e : (s.data.toList.extract 0 1) = s.data.toList.take 1 := by simp [List.extract]
  rw [e]
  have hl : s.data.toList.length = s.size := data_length s
  obtain ⟨b, hd, hb⟩ := drop_at s.data.toList 0 (by omega)
  rw [List.drop_zero] at hd
  rw [hb]
  rw [hd]
  show [b] = [c] ↔ _
  constructor
  · intro h; rw [List.cons.inj h |>.1]
  · intro h; rw [UInt8.toNat_inj.1 h]
theorem trim_q (s : ByteArray) (hz : s.size ≠ 0) : strings_TrimPrefix.f s (⟨#[45]⟩ : ByteArray) = some (s.extract (sg s) s.size) := by
  unfold strings_TrimPrefix.f stringslite_TrimPrefix.f sg
  rw [pre_l]
  have z : (⟨#[45]⟩ : ByteArray).size = 1 := rfl
  have hp := pre_one s hz 45
  simp only [Option.bind_some, z]
  by_cases h : byt s.data.toList 0 = 45
  · rw [if_pos (hp.2 h), if_pos (by omega), if_pos (by omega), if_pos h]; rfl
  · rw [if_neg (fun x => h (hp.1 x)), if_neg h]
    have : s.extract 0 s.size = s := ByteArray.extract_zero_size
    rw [this]; rfl
theorem atoi_at (s : ByteArray) (c : Nat) (hc : c = dg (s.data.toList.drop (sg s))) (h1 : 1 ≤ c) (h16 : c ≤ 16) :
    strconv_Atoi.f (s.extract 0 (sg s + c)) = some ((if sg s = 1 then -((nv 0 ((s.data.toList.drop (sg s)).take c) : Nat) : Int) else ((nv 0 ((s.data.toList.drop (sg s)).take c) : Nat) : Int)), none) := by
  have hl : s.data.toList.length = s.size := data_length s
  have hd := dg_le (s.data.toList.drop (sg s))
  rw [← hc, List.length_drop] at hd
  have hsg : sg s ≤ 1 := by unfold sg; split <;> omega
  have hsz : (s.extract 0 (sg s + c)).size = sg s + c := by rw [ByteArray.size_extract]; omega
  have hto : (s.extract 0 (sg s + c)).data.toList = s.data.toList.take (sg s + c) := by
    rw [ByteArray.data_extract, Array.toList_extract]; simp [List.extract]
  unfold strconv_Atoi.f
  rw [if_pos (by omega), hto]
  have dn : ∀ r : List UInt8, r = (s.data.toList.drop (sg s)).take c → decNat r = some (nv 0 ((s.data.toList.drop (sg s)).take c)) := by
    intro r hr
    subst hr
    unfold decNat
    rw [if_neg (by
      intro h
      rw [List.isEmpty_iff] at h
      have := congrArg List.length h
      rw [List.length_take, List.length_drop, List.length_nil] at this
      omega)]
    have := dec_nv (s.data.toList.drop (sg s)) 0
    rw [← hc] at this
    exact this
  by_cases h : byt s.data.toList 0 = 45
  · have e1 : sg s = 1 := by unfold sg; rw [if_pos h]
    obtain ⟨b, hb, hb2⟩ := drop_at s.data.toList 0 (by omega)
    rw [List.drop_zero] at hb
    have e : s.data.toList.take (sg s + c) = b :: (s.data.toList.drop (sg s)).take c := by
      rw [e1, Nat.add_comm, hb, List.take_succ_cons]; rfl
    have hb45 : (b == 45) = true := by rw [beq_iff_eq, ← UInt8.toNat_inj, ← hb2, h]; rfl
    rw [e]
    unfold atoi
    simp only [hb45, if_true]
    rw [dn _ rfl, if_pos e1]; rfl
  · have e1 : sg s = 0 := by unfold sg; rw [if_neg h]
    have e : s.data.toList.take (sg s + c) = (s.data.toList.drop (sg s)).take c := by rw [e1, Nat.zero_add, List.drop_zero]
    obtain ⟨b, hb, hb2⟩ := drop_at s.data.toList 0 (by omega)
    rw [List.drop_zero] at hb
    rw [e]
    have dn' := dn _ rfl
    have hdig : 48 ≤ b.toNat ∧ b.toNat ≤ 57 := by
      rw [e1, List.drop_zero, hb] at hc
      by_cases hh : 48 ≤ b.toNat ∧ b.toNat ≤ 57
      · exact hh
      · rw [dg_neg b _ hh] at hc; omega
    obtain ⟨c', rfl⟩ : ∃ q, c = q + 1 := ⟨c - 1, by omega⟩
    have e2 : (s.data.toList.drop (sg s)).take (c' + 1) = b :: (s.data.toList.drop 1).take c' := by
      rw [e1, List.drop_zero]
      conv => lhs; rw [hb]
      rw [List.take_succ_cons]
    rw [e2] at dn' ⊢
    have hb45 : (b == 45) = false := by rw [beq_eq_false_iff_ne]; intro hx; rw [hx] at hdig; exact absurd hdig.1 (by decide)
    have hb43 : (b == 43) = false := by rw [beq_eq_false_iff_ne]; intro hx; rw [hx] at hdig; exact absurd hdig.1 (by decide)
    unfold atoi
    simp only [hb45, hb43, Bool.false_eq_true, if_false]
    rw [dn', if_neg (by omega)]; rfl
theorem int_q (s : ByteArray) (hs : s.size < 1000000) (hz : s.size ≠ 0) (k nF : Nat) (hn : dg (s.data.toList.drop (sg s)) ≤ 16 → nF = nv 0 ((s.data.toList.drop (sg s)).take (dg (s.data.toList.drop (sg s))))) :
    value_integer.f (k + s.size + 2) s = some (intR s (sg s) (dg (s.data.toList.drop (sg s))) nF) := by
  have hl : s.data.toList.length = s.size := data_length s
  have hsg : sg s ≤ 1 := by unfold sg; split <;> omega
  have hd := dg_le (s.data.toList.drop (sg s))
  rw [List.length_drop] at hd
  have htl : (s.extract (sg s) s.size).data.toList = s.data.toList.drop (sg s) := extract_toList s (sg s)
  have hts : (s.extract (sg s) s.size).size = s.size - sg s := by rw [ByteArray.size_extract]; omega
  unfold value_integer.f
  rw [trim_q s hz]
  simp only [Option.bind_some]
  have dl := digits_l0 (s.extract (sg s) s.size) (by omega) (k + sg s + 1) (s.size - sg s) 0 (by omega) (by omega)
  rw [List.drop_zero, htl, show k + sg s + 1 + (s.size - sg s) + 1 = k + s.size + 2 by omega, Nat.zero_add] at dl
  unfold value_digits.f
  rw [show ((0 : Nat) : Int) = 0 from rfl] at dl
  rw [dl]
  simp only [Option.bind_some]
  rw [hts, w64 (x := (s.size : Int) - ((s.size - sg s : Nat) : Int)) (by omega) (by omega), w64 (by omega) (by omega)]
  have b0 : bt (s.extract (sg s) s.size) 0 = byt s.data.toList (sg s) := by
    have := bt_byt (s.extract (sg s) s.size) 0
    rw [this, htl]
    show ((byt (s.data.toList.drop (sg s)) 0 : Nat) : Int) = _
    unfold byt
    rw [List.getD_eq_getElem?_getD, List.getD_eq_getElem?_getD, List.getElem?_drop]; rfl
  rw [b0]
  generalize hc : dg (s.data.toList.drop (sg s)) = c at *
  rw [show ((s.size : Int) - ((s.size - sg s : Nat) : Int) + (c : Int)) = ((sg s + c : Nat) : Int) by omega]
  have tr : value_integer.j0 (k + s.size + 2) s (c : Int) ((sg s + c : Nat) : Int) true = some (0, 0, ⟨#[]⟩, ⟨#[]⟩, 3) := by
    rw [value_integer.j0, if_pos rfl]
  have fl : ∀ b : Bool, b = false → 1 ≤ c → value_integer.j0 (k + s.size + 2) s (c : Int) ((sg s + c : Nat) : Int) b = some (if 16 < c ∨ 9007199254740991 < nF then (0, 0, ⟨#[]⟩, ⟨#[]⟩, 2) else (1, if sg s = 1 then -(nF : Int) else (nF : Int), ⟨#[]⟩, s.extract (sg s + c) s.size, 0)) := by
    intro b hb h1
    subst hb
    rw [value_integer.j0]
    simp only [Bool.false_eq_true, if_false]
    by_cases h2 : 16 < c
    · rw [if_pos (by omega), if_pos (.inl h2)]
    rw [if_neg (by omega), if_pos (by omega), if_pos (by omega), Int.toNat_natCast, atoi_at s c hc.symm h1 (by omega)]
    rw [← hn (by omega)]
    simp only [Option.bind_some]
    by_cases h3 : sg s = 1
    · simp only [h3, if_true]
      by_cases h4 : 9007199254740991 < nF
      · rw [if_neg (by omega), if_pos (by omega), if_pos (.inr h4)]
      · rw [if_neg (by omega), if_neg (by omega), if_neg (by omega)]
    · simp only [h3, if_false]
      by_cases h4 : 9007199254740991 < nF
      · rw [if_pos (by omega), if_pos (.inr h4)]
      · rw [if_neg (by omega), if_neg (by omega), if_neg (by omega)]
  unfold intR
  by_cases h0 : c = 0
  · rw [if_pos (by omega), tr, if_pos h0]
  rw [if_neg (by omega), if_neg h0, if_pos (by omega)]
  by_cases h1 : byt s.data.toList (sg s) = 48
  · rw [if_pos (by omega)]
    by_cases h2 : 1 < c
    · rw [if_pos (by omega), tr, if_pos ⟨h1, .inl h2⟩]
    · rw [if_neg (by omega)]
      by_cases h3 : sg s = 1
      · rw [show decide (((s.size - sg s : Nat) : Int) < (s.size : Int)) = true from decide_eq_true (by omega), tr, if_pos ⟨h1, .inr h3⟩]
      · rw [fl _ (decide_eq_false (by omega)) (by omega), if_neg (show ¬ (byt s.data.toList (sg s) = 48 ∧ (1 < c ∨ sg s = 1)) by omega)]
  · rw [if_neg (by omega), fl _ rfl (by omega), if_neg (show ¬ (byt s.data.toList (sg s) = 48 ∧ (1 < c ∨ sg s = 1)) from fun z => h1 z.1)]
end Go.Proofs.YtoajlmmkkcelgaaDoor.U8
namespace Go.Proofs.YtoajlmmkkcelgaaDoor.U8
open Go.RowKit Go.Proofs.YtoajlmmkkcelgaaDoor.A Go.Proofs.YtoajlmmkkcelgaaDoorW.PrintWords Go.Proofs.YtoajlmmkkcelgaaDoorW.PrintLast Go.Lib
set_option linter.unusedVariables false
set_option linter.unusedSimpArgs false
def hexV (c : Nat) : Int := if 48 ≤ c ∧ c ≤ 57 then (c : Int) - 48 else if 97 ≤ c ∧ c ≤ 102 then (c : Int) - 87 else -1
theorem hexV_lt (c : Nat) : -1 ≤ hexV c ∧ hexV c < 16 := by
  unfold hexV
  repeat' split
  all_goals omega
theorem digit_q (c : Nat) (h : c < 256) : value_digit.f (c : Int) = some (hexV c) := by
  have all : ∀ n : Fin 256, value_digit.f ((n.val : Nat) : Int) = some (hexV n.val) := by decide +kernel
  exact all ⟨c, h⟩
theorem digit_r (c : Nat) (h : c < 256) (k : Nat) : caduceusref03_digit.f (k + 1) (c : Int) = some (hexV c) := by
  have all : ∀ n : Fin 256, caduceusref03_digit.f 1 ((n.val : Nat) : Int) = some (hexV n.val) := by decide +kernel
  exact at_rounds (fun k => caduceusref03_digit.mono (c : Int) k) (show 1 ≤ k + 1 by omega) (all ⟨c, h⟩)
theorem or16 (a b : Int) (ha : 0 ≤ a ∧ a < 16) (hb : 0 ≤ b ∧ b < 16) : Go.bits .or .i64 (wrap64 (a * 16)) b = 16 * a + b := by
  have all : ∀ x y : Fin 16, Go.bits .or .i64 (((x.val : Nat) : Int) * 16) ((y.val : Nat) : Int) = 16 * ((x.val : Nat) : Int) + ((y.val : Nat) : Int) := by decide +kernel
  have := all ⟨a.toNat, by omega⟩ ⟨b.toNat, by omega⟩
  simp only at this
  rw [Int.toNat_of_nonneg ha.1, Int.toNat_of_nonneg hb.1] at this
  rw [w64 (by omega) (by omega), this]
theorem baext {a b : ByteArray} (h : a.data.toList = b.data.toList) : a = b := by
  obtain ⟨⟨a⟩⟩ := a
  obtain ⟨⟨b⟩⟩ := b
  simp only at h
  rw [h]
theorem ext_ext (s : ByteArray) (i j : Nat) : (s.extract i s.size).extract j (s.extract i s.size).size = s.extract (i + j) s.size := by
  apply baext
  rw [extract_toList, extract_toList, extract_toList, List.drop_drop]
theorem bt_ext (s : ByteArray) (i j : Nat) : bt (s.extract i s.size) (j : Int) = (byt s.data.toList (i + j) : Int) := by
  rw [btq, extract_toList, byt_drop]
theorem wa1 (i : Nat) (h : i < 1000000) : wrap64 ((i : Int) + 1) = ((i + 1 : Nat) : Int) := by rw [w64 (by omega) (by omega)]; omega
theorem wa2 (i : Nat) (h : i < 1000000) : wrap64 ((i : Int) + 2) = ((i + 2 : Nat) : Int) := by rw [w64 (by omega) (by omega)]; omega
theorem bt_ext0 (s : ByteArray) (i : Nat) : bt (s.extract i s.size) 0 = (byt s.data.toList i : Int) := bt_ext s i 0
theorem bt_ext1 (s : ByteArray) (i : Nat) : bt (s.extract i s.size) 1 = (byt s.data.toList (i + 1) : Int) := bt_ext s i 1
theorem hx_j2q (q : Nat) (y : ByteArray) (z : List Int) : value_bytes.j2 (q + 1) y z true = some (0, 0, ⟨#[]⟩, ⟨#[]⟩, 3) := by rw [value_bytes.j2, if_pos rfl]
theorem hx_j2r (q : Nat) (y : ByteArray) (z : List Int) (j : Int) : caduceusref03_hexes.j2 (q + 1) y z j true = some (0, 0, ⟨#[]⟩, ⟨#[]⟩, 3) := by rw [caduceusref03_hexes.j2, if_pos rfl]
/-- What both make of a pair of digits. -/
theorem hx_pair0 (s : ByteArray) (i k : Nat) (xs : List Int) (a b : Int) (hs : s.size < 1000000) (hl : i + 2 ≤ s.size) (hx : xs.length ≤ i) (a0 : 0 ≤ a ∧ a < 16) (b0 : 0 ≤ b ∧ b < 16)
    (qa : value_digit.f ((byt s.data.toList i : Nat) : Int) = some a) (qb : value_digit.f ((byt s.data.toList (i + 1) : Nat) : Int) = some b)
    (ra : ∀ k, caduceusref03_digit.f (k + 1) ((byt s.data.toList i : Nat) : Int) = some a) (rb : ∀ k, caduceusref03_digit.f (k + 1) ((byt s.data.toList (i + 1) : Nat) : Int) = some b) :
    value_bytes.j2 (k + 2) (s.extract i s.size) xs false = value_bytes.l0 (k + 1) (s.extract (i + 2) s.size) (xs ++ [(16 * a + b) % 256])
    ∧ caduceusref03_hexes.j2 (k + 2) s xs (i : Int) false = caduceusref03_hexes.l0 (k + 1) s (xs ++ [(16 * a + b) % 256]) ((i + 2 : Nat) : Int) := by
  have hz : (s.extract i s.size).size = s.size - i := by rw [ByteArray.size_extract]; omega
  constructor
  · rw [show k + 2 = k + 1 + 1 by omega, value_bytes.j2]
    simp only [Bool.false_eq_true, if_false]
    rw [if_pos (by omega), bt_ext0, qa, Option.bind_some]
    rw [if_pos (by omega), bt_ext1, qb, Option.bind_some]
    rw [if_pos (by omega), if_pos (by omega), ext_ext, or16 _ _ a0 b0]
  · rw [show k + 2 = k + 1 + 1 by omega, caduceusref03_hexes.j2]
    simp only [Bool.false_eq_true, if_false]
    rw [if_pos (by omega), if_pos (by omega), btq s i, ra, Option.bind_some]
    rw [wa1 i (by omega), if_pos (by omega), if_pos (by omega), btq s (i + 1), rb, Option.bind_some]
    rw [if_pos (by omega), wa2 i (by omega), w64 (x := 16 * a) (by omega) (by omega), w64 (by omega) (by omega)]
theorem hx_pair (s : ByteArray) (i k : Nat) (xs : List Int) (hs : s.size < 1000000) (hl : i + 2 ≤ s.size) (hx : xs.length ≤ i) (v0 : 0 ≤ hexV (byt s.data.toList i)) (v1 : 0 ≤ hexV (byt s.data.toList (i + 1))) :
    value_bytes.j2 (k + 2) (s.extract i s.size) xs false = value_bytes.l0 (k + 1) (s.extract (i + 2) s.size) (xs ++ [(16 * hexV (byt s.data.toList i) + hexV (byt s.data.toList (i + 1))) % 256])
    ∧ caduceusref03_hexes.j2 (k + 2) s xs (i : Int) false = caduceusref03_hexes.l0 (k + 1) s (xs ++ [(16 * hexV (byt s.data.toList i) + hexV (byt s.data.toList (i + 1))) % 256]) ((i + 2 : Nat) : Int) :=
  hx_pair0 s i k xs _ _ hs hl hx ⟨v0, (hexV_lt _).2⟩ ⟨v1, (hexV_lt _).2⟩ (digit_q _ (byt_lt _ _)) (digit_q _ (byt_lt _ _)) (digit_r _ (byt_lt _ _)) (digit_r _ (byt_lt _ _))
theorem hx_end (s : ByteArray) (k : Nat) (xs : List Int) (i : Nat) (hi : i = s.size) :
    value_bytes.l0 (k + 2) (s.extract i s.size) xs = some (0, 0, ⟨#[]⟩, ⟨#[]⟩, 3) ∧ caduceusref03_hexes.l0 (k + 2) s xs (i : Int) = some (0, 0, ⟨#[]⟩, ⟨#[]⟩, 3) := by
  have hz : (s.extract i s.size).size = 0 := by rw [ByteArray.size_extract]; omega
  rw [value_bytes.l0, caduceusref03_hexes.l0, if_pos ((toList_nil _).2 hz), if_neg (by omega), value_bytes.j1, caduceusref03_hexes.j1]
  simp only [Bool.false_eq_true, if_false]
  rw [if_pos ((toList_nil _).2 hz), if_pos (by omega)]
  exact ⟨rfl, rfl⟩
theorem hx_ne (s : ByteArray) (i : Nat) (h : i < s.size) : ¬ (s.extract i s.size).toList = [] := fun e => by
  have := (toList_nil _).1 e
  rw [ByteArray.size_extract] at this
  omega
theorem hx_quote (s : ByteArray) (k : Nat) (xs : List Int) (i : Nat) (hs : s.size < 1000000) (hi : i < s.size) (hq : byt s.data.toList i = 39) :
    value_bytes.l0 (k + 2) (s.extract i s.size) xs = some (if xs.length > 200 then (0, 0, ⟨#[]⟩, ⟨#[]⟩, 2) else (4, 0, strOfNums xs, s.extract (i + 1) s.size, 0)) ∧ caduceusref03_hexes.l0 (k + 2) s xs (i : Int) = some (if xs.length > 200 then (0, 0, ⟨#[]⟩, ⟨#[]⟩, 2) else (4, 0, strOfNums xs, s.extract (i + 1) s.size, 0)) := by
  have hz : (s.extract i s.size).size = s.size - i := by rw [ByteArray.size_extract]; omega
  generalize hR : (if xs.length > 200 then ((0, 0, ⟨#[]⟩, ⟨#[]⟩, 2) : Int × Int × ByteArray × ByteArray × Int) else (4, 0, strOfNums xs, s.extract (i + 1) s.size, 0)) = R
  rw [value_bytes.l0, caduceusref03_hexes.l0, if_neg (hx_ne s i hi), if_pos (by omega), if_pos (by omega), if_pos (by omega), bt_ext0, btq s i, hq, value_bytes.j1, caduceusref03_hexes.j1]
  rw [show (((39 : Nat) : Int) != 39) = false from rfl]
  simp only [Bool.false_eq_true, if_false]
  rw [if_neg (hx_ne s i hi), if_neg (show ¬ ((i : Int) ≥ (s.size : Int)) by omega)]
  by_cases h200 : xs.length > 200
  · have h2 : (xs.length : Int) > 200 := by omega
    rw [if_pos h2, if_pos h2, ← hR, if_pos h200]
    exact ⟨rfl, rfl⟩
  · have h2 : ¬ (xs.length : Int) > 200 := by omega
    rw [if_neg h2, if_neg h2, if_pos (by omega), wa1 i (by omega), if_pos (by omega), if_pos (by omega), Int.toNat_natCast, ext_ext, ← hR, if_neg h200]
    exact ⟨rfl, rfl⟩
theorem hx_bad (s : ByteArray) (k : Nat) (xs : List Int) (i : Nat) (hs : s.size < 1000000) (hi : i < s.size) (hq : byt s.data.toList i ≠ 39)
    (hb : s.size < i + 2 ∨ hexV (byt s.data.toList i) < 0 ∨ hexV (byt s.data.toList (i + 1)) < 0) :
    value_bytes.l0 (k + 4) (s.extract i s.size) xs = some (0, 0, ⟨#[]⟩, ⟨#[]⟩, 3) ∧ caduceusref03_hexes.l0 (k + 4) s xs (i : Int) = some (0, 0, ⟨#[]⟩, ⟨#[]⟩, 3) := by
  have hz : (s.extract i s.size).size = s.size - i := by rw [ByteArray.size_extract]; omega
  have g0 := byt_lt s.data.toList i
  have g1 := byt_lt s.data.toList (i + 1)
  rw [show k + 4 = k + 3 + 1 by omega, value_bytes.l0, caduceusref03_hexes.l0, if_neg (hx_ne s i hi), if_pos (by omega), if_pos (by omega), if_pos (by omega), bt_ext0, btq s i, show k + 3 = k + 2 + 1 by omega, value_bytes.j1, caduceusref03_hexes.j1]
  rw [show (((byt s.data.toList i : Nat) : Int) != 39) = true by rw [bne_iff_ne]; omega]
  simp only [if_true]
  rw [wa1 i (by omega), bt_ext0, bt_ext1, btq s i, btq s (i + 1), digit_q _ g0, digit_q _ g1, show k + 2 = k + 1 + 1 by omega, digit_r _ g0, digit_r _ g1, hx_j2q, hx_j2r]
  simp only [Option.bind_some]
  by_cases hl : s.size < i + 2
  · rw [if_pos (by omega), if_pos (by omega)]
    exact ⟨rfl, rfl⟩
  by_cases d0 : hexV (byt s.data.toList i) < 0
  · rw [if_neg (by omega), if_pos (by omega), if_pos d0, if_neg (by omega), if_pos (by omega), if_pos (by omega), if_pos d0]
    exact ⟨rfl, rfl⟩
  · rw [if_neg (by omega), if_pos (by omega), if_neg d0, if_pos (by omega), if_neg (by omega), if_pos (by omega), if_pos (by omega), if_neg d0, if_pos (by omega), if_pos (by omega), show decide (hexV (byt s.data.toList (i + 1)) < 0) = true from decide_eq_true (by omega), hx_j2q, hx_j2r]
    exact ⟨rfl, rfl⟩
theorem hx_on (s : ByteArray) (k : Nat) (xs : List Int) (i : Nat) (hs : s.size < 1000000) (hl : i + 2 ≤ s.size) (hx : xs.length ≤ i) (hq : byt s.data.toList i ≠ 39)
    (v0 : 0 ≤ hexV (byt s.data.toList i)) (v1 : 0 ≤ hexV (byt s.data.toList (i + 1))) :
    value_bytes.l0 (k + 4) (s.extract i s.size) xs = value_bytes.l0 (k + 1) (s.extract (i + 2) s.size) (xs ++ [(16 * hexV (byt s.data.toList i) + hexV (byt s.data.toList (i + 1))) % 256])
    ∧ caduceusref03_hexes.l0 (k + 4) s xs (i : Int) = caduceusref03_hexes.l0 (k + 1) s (xs ++ [(16 * hexV (byt s.data.toList i) + hexV (byt s.data.toList (i + 1))) % 256]) ((i + 2 : Nat) : Int) := by
  have hz : (s.extract i s.size).size = s.size - i := by rw [ByteArray.size_extract]; omega
  have g0 := byt_lt s.data.toList i
  have g1 := byt_lt s.data.toList (i + 1)
  obtain ⟨p1, p2⟩ := hx_pair s i k xs hs hl hx v0 v1
  rw [← p1, ← p2]
  rw [show k + 4 = k + 3 + 1 by omega, value_bytes.l0, caduceusref03_hexes.l0, if_neg (hx_ne s i (by omega)), if_pos (by omega), if_pos (by omega), if_pos (by omega), bt_ext0, btq s i, show k + 3 = k + 2 + 1 by omega, value_bytes.j1, caduceusref03_hexes.j1]
  rw [show (((byt s.data.toList i : Nat) : Int) != 39) = true by rw [bne_iff_ne]; omega]
  simp only [if_true]
  rw [wa1 i (by omega), bt_ext0, bt_ext1, btq s i, btq s (i + 1), digit_q _ g0, digit_q _ g1, show k + 2 = k + 1 + 1 by omega, digit_r _ g0, digit_r _ g1]
  simp only [Option.bind_some]
  rw [if_neg (by omega), if_pos (by omega), if_neg (by omega), if_pos (by omega), if_neg (by omega), if_pos (by omega), if_pos (by omega), if_neg (by omega), if_pos (by omega), if_pos (by omega), show decide (hexV (byt s.data.toList (i + 1)) < 0) = false from decide_eq_false (by omega)]
  exact ⟨rfl, rfl⟩
/-- The bytes from place i on; so far they are xs. -/
def hexGo (s : ByteArray) : Nat → Nat → List Int → Int × Int × ByteArray × ByteArray × Int
  | 0, _, _ => (0, 0, ⟨#[]⟩, ⟨#[]⟩, 3)
  | m + 1, i, xs =>
    if s.size ≤ i then (0, 0, ⟨#[]⟩, ⟨#[]⟩, 3)
    else if byt s.data.toList i = 39 then (if xs.length > 200 then (0, 0, ⟨#[]⟩, ⟨#[]⟩, 2) else (4, 0, strOfNums xs, s.extract (i + 1) s.size, 0))
    else if s.size < i + 2 ∨ hexV (byt s.data.toList i) < 0 ∨ hexV (byt s.data.toList (i + 1)) < 0 then (0, 0, ⟨#[]⟩, ⟨#[]⟩, 3)
    else hexGo s m (i + 2) (xs ++ [(16 * hexV (byt s.data.toList i) + hexV (byt s.data.toList (i + 1))) % 256])
theorem hexes_l0 (s : ByteArray) (hs : s.size < 1000000) (k : Nat) : ∀ (m i : Nat) (xs : List Int), i ≤ s.size → s.size - i ≤ m → xs.length ≤ i →
    value_bytes.l0 (k + 3 * m + 4) (s.extract i s.size) xs = some (hexGo s m i xs) ∧ caduceusref03_hexes.l0 (k + 3 * m + 4) s xs (i : Int) = some (hexGo s m i xs)
  | 0, i, xs, h1, h2, h5 => hx_end s (k + 3 * 0 + 2) xs i (by omega)
  | m + 1, i, xs, h1, h2, h5 => by
    rw [hexGo]
    by_cases hi : i = s.size
    · rw [if_pos (show s.size ≤ i by omega)]
      exact hx_end s (k + 3 * (m + 1) + 2) xs i hi
    rw [if_neg (show ¬ s.size ≤ i by omega)]
    by_cases hq : byt s.data.toList i = 39
    · rw [if_pos hq]
      exact hx_quote s (k + 3 * (m + 1) + 2) xs i hs (by omega) hq
    rw [if_neg hq]
    by_cases hb : s.size < i + 2 ∨ hexV (byt s.data.toList i) < 0 ∨ hexV (byt s.data.toList (i + 1)) < 0
    · rw [if_pos hb]
      exact hx_bad s (k + 3 * (m + 1)) xs i hs (by omega) hq hb
    · rw [if_neg hb]
      obtain ⟨e1, e2⟩ := hx_on s (k + 3 * (m + 1)) xs i hs (by omega) h5 hq (by omega) (by omega)
      obtain ⟨a, b⟩ := hexes_l0 s hs k m (i + 2) (xs ++ [(16 * hexV (byt s.data.toList i) + hexV (byt s.data.toList (i + 1))) % 256]) (by omega) (by omega) (by rw [List.length_append]; show xs.length + 1 ≤ i + 2; omega)
      refine ⟨?_, ?_⟩
      · rw [e1, show k + 3 * (m + 1) + 1 = k + 3 * m + 4 by omega]; exact a
      · rw [e2, show k + 3 * (m + 1) + 1 = k + 3 * m + 4 by omega]; exact b
theorem hexes_go (s : ByteArray) (hs : s.size < 1000000) (h2 : 2 ≤ s.size) (k : Nat) : value_bytes.f (k + 3 * s.size + 4) s = some (hexGo s s.size 2 []) ∧ caduceusref03_hexes.f (k + 3 * s.size + 4) s = some (hexGo s s.size 2 []) := by
  unfold value_bytes.f caduceusref03_hexes.f
  rw [if_pos (by omega)]
  exact hexes_l0 s hs k s.size 2 [] h2 (by omega) (by simp)
end Go.Proofs.YtoajlmmkkcelgaaDoor.U8
namespace Go.Proofs.YtoajlmmkkcelgaaDoor.U8
open Go.RowKit Go.Proofs.YtoajlmmkkcelgaaDoor.A Go.Proofs.YtoajlmmkkcelgaaDoorW.PrintWords Go.Proofs.YtoajlmmkkcelgaaDoorW.PrintLast Go.Lib
set_option linter.unusedVariables false
set_option linter.unusedSimpArgs false
/-- Is a rune written with a backslash? -/
def isCtl (c : Int) : Bool := decide (0 ≤ c ∧ c < 32) || c == 34 || c == 92 || c == 127
theorem enc_byte0 (c : Int) (h : 128 ≤ c) : 128 ≤ byt (Utf8.encode c).data.toList 0 := by
  unfold Utf8.encode
  have hb : ∀ n : Nat, 128 ≤ n → n < 256 → 128 ≤ (UInt8.ofNat n).toNat := fun n h1 h2 => by
    rw [UInt8.toNat_ofNat']; omega
  simp only
  generalize hc : (if Utf8.valid c = true then c.toNat else Utf8.runeError) = q
  have hq : 128 ≤ q ∧ q ≤ 1114111 := by
    rw [← hc]
    split
    · rename_i hv
      unfold Utf8.valid at hv
      simp only [Bool.or_eq_true, Bool.and_eq_true, decide_eq_true_eq] at hv
      omega
    · unfold Utf8.runeError; omega
  rw [if_neg (by omega)]
  unfold byt
  split
  · exact hb _ (by omega) (by omega)
  split
  · exact hb _ (by omega) (by omega)
  · exact hb _ (by omega) (by omega)
theorem escB_byte0 (c : Int) (h0 : 0 ≤ c) (h : byt (escB c).data.toList 0 = 92) : isCtl c = true := by
  by_cases h128 : c < 128
  · have all : ∀ n : Fin 128, byt (escB (n.val : Int)).data.toList 0 = 92 → isCtl (n.val : Int) = true := by decide +kernel
    have := all ⟨c.toNat, by omega⟩
    simp only [Int.toNat_of_nonneg h0] at this
    exact this h
  · have := enc_byte0 c (by omega)
    unfold escB at h
    rw [if_neg (by omega), if_neg (by omega), if_neg (by omega), if_neg (by omega), if_neg (by omega)] at h
    omega
theorem isCtl_lt (c : Int) (h : isCtl c = true) : 0 ≤ c ∧ c < 128 := by
  unfold isCtl at h
  simp only [Bool.or_eq_true, decide_eq_true_eq, beq_iff_eq] at h
  omega
theorem isCtl_byte0 (c : Int) (h : isCtl c = true) : byt (escB c).data.toList 0 = 92 := by
  have hr := isCtl_lt c h
  have all : ∀ n : Fin 128, isCtl (n.val : Int) = true → byt (escB (n.val : Int)).data.toList 0 = 92 := by decide +kernel
  have := all ⟨c.toNat, by omega⟩
  simp only [Int.toNat_of_nonneg hr.1] at this
  exact this h
/-- A prefix, byte for byte. -/
theorem pre_iff (s p : ByteArray) : preB s p = true ↔ p.size ≤ s.size ∧ s.data.toList.take p.size = p.data.toList := by
  unfold preB
  by_cases h : p.size ≤ s.size
  · rw [if_pos h, beq_iff_eq]
    have e : (s.extract 0 p.size).toList = s.data.toList.take p.size := by
      rw [ByteArray.toList_eq, ByteArray.data_extract, Array.toList_extract]
      simp
    rw [e, ByteArray.toList_eq]
    exact ⟨fun x => ⟨h, x⟩, fun x => x.2⟩
  · rw [if_neg h]
    simp [h]
theorem byt_take (l : List UInt8) (n i : Nat) (h : i < n) : byt (l.take n) i = byt l i := by
  unfold byt
  rw [List.getD_eq_getElem?_getD, List.getD_eq_getElem?_getD, List.getElem?_take_of_lt h]
theorem pre_at {s p : ByteArray} (h : preB s p = true) (i : Nat) (hi : i < p.size) : byt s.data.toList i = byt p.data.toList i := by
  obtain ⟨h1, h2⟩ := (pre_iff s p).1 h
  rw [← h2, byt_take _ _ _ hi]
/-- No rune's writing is the beginning of another one's. -/
theorem ctl_once (s : ByteArray) (a b : Int) (ha : isCtl a = true) (hb : isCtl b = true) (pa : preB s (escB a) = true) (pb : preB s (escB b) = true) : a = b := by
  have ra := isCtl_lt a ha
  have rb := isCtl_lt b hb
  have all : ∀ x y : Fin 128, isCtl (x.val : Int) = true → isCtl (y.val : Int) = true → (escB (x.val : Int)).data.toList.take (escB (y.val : Int)).size = (escB (y.val : Int)).data.toList.take (escB (x.val : Int)).size → x = y := by decide +kernel
  have := all ⟨a.toNat, by omega⟩ ⟨b.toNat, by omega⟩
  simp only [Int.toNat_of_nonneg ra.1, Int.toNat_of_nonneg rb.1] at this
  have e := this ha hb (by
    rw [← ((pre_iff _ _).1 pa).2, ← ((pre_iff _ _).1 pb).2, List.take_take, List.take_take, Nat.min_comm])
  have := congrArg Fin.val e
  simp only at this
  omega
/-- The rune whose writing, with a backslash, stands at the front. -/
def ctlF (s : ByteArray) : Nat → Nat → Option Nat
  | 0, _ => none
  | m + 1, c => if isCtl c = true ∧ preB s (escB c) = true then some c else ctlF s m (c + 1)
theorem ctlF_some (s : ByteArray) : ∀ m c r, ctlF s m c = some r → c ≤ r ∧ r < c + m ∧ isCtl r = true ∧ preB s (escB r) = true
  | 0, c, r, h => by simp [ctlF] at h
  | m + 1, c, r, h => by
    rw [ctlF] at h
    split at h
    · rename_i h1
      obtain rfl := Option.some.inj h
      exact ⟨by omega, by omega, h1.1, h1.2⟩
    · have := ctlF_some s m (c + 1) r h
      exact ⟨by omega, by omega, this.2.2⟩
theorem ctlF_none (s : ByteArray) : ∀ m c, ctlF s m c = none → ∀ r : Nat, c ≤ r → r < c + m → isCtl r = true → preB s (escB r) = true → False
  | 0, c, h, r, h1, h2, _, _ => by omega
  | m + 1, c, h, r, h1, h2, h3, h4 => by
    rw [ctlF] at h
    split at h
    · cases h
    · rename_i hn
      by_cases e : r = c
      · subst e; exact hn ⟨h3, h4⟩
      · exact ctlF_none s m (c + 1) h r (by omega) (by omega) h3 h4
def ctl (s : ByteArray) : Option Nat := ctlF s 128 0
theorem ctl_of (s : ByteArray) (c : Int) (h : isCtl c = true) (hp : preB s (escB c) = true) : ctl s = some c.toNat := by
  have hr := isCtl_lt c h
  cases e : ctl s with
  | none => exact absurd hp (fun hp => ctlF_none s 128 0 e c.toNat (by omega) (by omega) (by rw [Int.toNat_of_nonneg hr.1]; exact h) (by rw [Int.toNat_of_nonneg hr.1]; exact hp))
  | some r =>
    have := ctlF_some s 128 0 r e
    have e2 := ctl_once s r c this.2.2.1 h this.2.2.2 hp
    rw [← e2, Int.toNat_natCast]
theorem ctl_lt (s : ByteArray) (c : Nat) (h : ctl s = some c) : c < 128 ∧ isCtl c = true ∧ preB s (escB c) = true := by
  have := ctlF_some s 128 0 c h
  exact ⟨by omega, this.2.2⟩
-- the reference's side
theorem escB_pos (c : Int) (h : 0 ≤ c) (h2 : c < 128) : 0 < (escB c).size := by
  have all : ∀ n : Fin 128, 0 < (escB (n.val : Int)).size := by decide +kernel
  have := all ⟨c.toNat, by omega⟩
  simpa only [Int.toNat_of_nonneg h] using this
end Go.Proofs.YtoajlmmkkcelgaaDoor.U8
namespace Go.Proofs.YtoajlmmkkcelgaaDoor.U8
open Go.RowKit Go.Proofs.YtoajlmmkkcelgaaDoor.A Go.Proofs.YtoajlmmkkcelgaaDoorW.PrintWords Go.Proofs.YtoajlmmkkcelgaaDoorW.PrintLast Go.Lib
set_option linter.unusedVariables false
set_option linter.unusedSimpArgs false
theorem or4 (n b : Int) (h0 : 0 ≤ n) (h1 : n < 1000000000) (b0 : 0 ≤ b) (b1 : b < 16) : Go.bits .or .i64 (wrap64 (n * 16)) b = 16 * n + b := by
  rw [w64 (by omega) (by omega)]
  have e63 : (2 : Int) ^ 63 = 9223372036854775808 := by decide
  have e4 : (2 : Int) ^ 4 = 16 := by decide
  have h := bits_join .i64 63 (by decide) (fun n h0 h1 => by rw [e63] at h1; rw [IntKind.wrap_i64]; omega) 4 (n * 16) b (by omega) (by rw [e4]; omega) (by rw [e63]; omega) b0 (by rw [e4]; omega) (by rw [e63]; omega)
  rw [h]; omega
/-- What the digits' loop answers, whatever stands there. -/
def okR (X : Option (Int × Int)) (b : Int) : Prop := ∃ r1 r2, X = some (r1, r2) ∧ 0 ≤ r1 ∧ r1 ≤ 1114111 ∧ 0 ≤ r2 ∧ r2 ≤ b
theorem okR_no (b : Int) (h : 0 ≤ b) : okR (some (0, 0)) b := ⟨0, 0, rfl, by omega, by omega, by omega, h⟩
theorem okR_ite {c : Prop} [Decidable c] {A B : Option (Int × Int)} {b : Int} (h : c → okR A b) (k : ¬ c → okR B b) : okR (if c then A else B) b := by
  by_cases e : c
  · rw [if_pos e]; exact h e
  · rw [if_neg e]; exact k e
theorem num_done (i : Nat) (n : Int) (hi : i ≤ 6) (n0 : 0 ≤ n) (h : ¬ n > 1114111) : okR (some (wrap32 n, wrap64 ((i : Int) + 1))) 7 := by
  have w1 : wrap64 ((i : Int) + 1) = ((i + 1 : Nat) : Int) := by rw [w64 (by omega) (by omega)]; omega
  exact ⟨_, _, rfl, by unfold wrap32; omega, by unfold wrap32; omega, by rw [w1]; omega, by rw [w1]; omega⟩
theorem num_fin (s : ByteArray) (i : Nat) (n : Int) (hi : i ≤ 6) (hz : i < s.size) (n0 : 0 ≤ n) :
    okR (if (i : Int) = 0 then (some (0, 0)) else (if (i : Int) = (s.size : Int) then (some (0, 0)) else (if bt s (i : Int) = 125 then (if 0 < (s.size : Int) then (if (bt s 0) = 48 then (if (i : Int) > 1 then (some (0, 0)) else (if n > 1114111 then (some (0, 0)) else (some (wrap32 (n), wrap64 ((i : Int) + 1))))) else (if n > 1114111 then (some (0, 0)) else (some (wrap32 (n), wrap64 ((i : Int) + 1))))) else (none)) else (some (0, 0))))) 7 := by
  have no := okR_no 7 (by omega)
  have big : okR (if n > 1114111 then (some (0, 0)) else (some (wrap32 (n), wrap64 ((i : Int) + 1)))) 7 := okR_ite (fun _ => no) (fun h => num_done i n hi n0 h)
  refine okR_ite (fun _ => no) (fun _ => okR_ite (fun _ => no) (fun _ => okR_ite (fun _ => ?_) (fun _ => no)))
  rw [if_pos (by omega)]
  exact okR_ite (fun _ => okR_ite (fun _ => no) (fun _ => big)) (fun _ => big)
theorem num_end (s : ByteArray) (k i : Nat) (n : Int) (hi : i ≤ 6) (hz : i ≤ s.size) (n0 : 0 ≤ n) (hs : i = 6 ∨ i = s.size ∨ hexV (byt s.data.toList i) < 0) : okR (value_numbered.l0 (k + 1) s n (i : Int)) 7 := by
  have no := okR_no 7 (by omega)
  rw [value_numbered.l0]
  by_cases hlt : i < s.size
  · have fin := num_fin s i n hi hlt n0
    rw [if_pos (by omega)]
    by_cases h6 : i < 6
    · have v : hexV (byt s.data.toList i) < 0 := by omega
      rw [if_pos (by omega), if_pos (by omega), btq s i, digit_q _ (byt_lt _ _), Option.bind_some, if_neg (by omega), ← btq s i]
      exact fin
    · rw [if_neg (by omega), if_neg (by omega), if_neg (by omega), if_pos (by omega)]
      rw [if_neg (by omega), if_neg (by omega)] at fin
      exact fin
  · rw [if_neg (by omega)]
    exact okR_ite (fun _ => no) (fun _ => by rw [if_pos (by omega)]; exact no)
theorem num_step (u : ByteArray) (k i : Nat) (n v : Int) (hi : i < 6) (hz : i < u.size) (hv : hexV (byt u.data.toList i) = v) (v0 : 0 ≤ v) (n0 : 0 ≤ n) (n1 : n < 1000000000) :
    value_numbered.l0 (k + 1) u n (i : Int) = value_numbered.l0 k u (16 * n + v) ((i + 1 : Nat) : Int) := by
  have g := byt_lt u.data.toList i
  have w1 : wrap64 ((i : Int) + 1) = ((i + 1 : Nat) : Int) := by rw [w64 (by omega) (by omega)]; omega
  have v1 := hexV_lt (byt u.data.toList i)
  rw [value_numbered.l0, if_pos (by omega), if_pos (by omega), if_pos (by omega), btq, digit_q _ g, Option.bind_some]
  rw [hv, if_pos v0, Option.bind_some, or4 n v n0 n1 v0 (by omega), w1]
theorem num_tot (s : ByteArray) (hs : s.size < 1000000) (k : Nat) : ∀ (m i n : Nat), i + m = 6 → i ≤ s.size → n < 16 ^ i → okR (value_numbered.l0 (k + m + 1) s (n : Int) (i : Int)) 7
  | 0, i, n, hm, hz, h1 => num_end s (k + 0) i n (by omega) hz (by omega) (by omega)
  | m + 1, i, n, hm, hz, h1 => by
    by_cases hb : i = s.size ∨ hexV (byt s.data.toList i) < 0
    · exact num_end s (k + (m + 1)) i n (by omega) hz (by omega) (by omega)
    · have hp : 16 ^ i ≤ 16 ^ 6 := Nat.pow_le_pow_right (by decide) (by omega)
      have e6 : 16 ^ 6 = 16777216 := by decide
      rw [e6] at hp
      have v := hexV_lt (byt s.data.toList i)
      rw [num_step s (k + (m + 1)) i n _ (by omega) (by omega) rfl (by omega) (by omega) (by omega)]
      have e : 16 * (n : Int) + hexV (byt s.data.toList i) = ((16 * n + (hexV (byt s.data.toList i)).toNat : Nat) : Int) := by omega
      rw [e, show k + (m + 1) = k + m + 1 by omega]
      exact num_tot s hs k m (i + 1) _ (by omega) (by omega) (by rw [Nat.pow_succ]; omega)
theorem esc_tot (t : ByteArray) (ht : t.size < 1000000) (k : Nat) : okR (value_escaped.f (k + 9) t) 9 := by
  have no := okR_no 9 (by omega)
  have yes : ∀ c : Int, 0 ≤ c → c ≤ 1114111 → okR (some (c, 1)) 9 := fun c h0 h1 => ⟨c, 1, rfl, h0, h1, by omega, by omega⟩
  unfold value_escaped.f
  by_cases h0 : t.toList = ([] : List UInt8)
  · rw [if_pos h0]; exact no
  have hz : t.size ≠ 0 := fun h => h0 ((toList_nil t).2 h)
  rw [if_neg h0, if_pos (by omega)]
  have g := byt_lt t.data.toList 0
  have j1 : ∀ b, 2 ≤ t.size ∨ b = false → okR (value_escaped.j1 (k + 8) t b) 9 := by
    intro b hb
    rw [value_escaped.j1]
    cases b
    · rw [if_neg (by decide)]; exact no
    · have h2 : 2 ≤ t.size := hb.resolve_right (by decide)
      rw [if_pos rfl, if_pos (by omega)]
      unfold value_numbered.f
      obtain ⟨r1, r2, h, a1, a2, a3, a4⟩ := num_tot (t.extract 2 t.size) (by rw [ByteArray.size_extract]; omega) k 6 0 0 rfl (by omega) (by decide)
      rw [show value_numbered.l0 (k + 7) (t.extract 2 t.size) 0 0 = some (r1, r2) from h, Option.bind_some]
      have w2 : wrap64 (r2 + 2) = r2 + 2 := w64 (by omega) (by omega)
      refine okR_ite (fun _ => ?_) (fun _ => ⟨_, _, rfl, a1, a2, a3, by omega⟩)
      exact ⟨_, _, rfl, a1, a2, by rw [w2]; omega, by rw [w2]; omega⟩
  have wb : wrap32 (bt t 0) = (byt t.data.toList 0 : Int) := by
    rw [show bt t 0 = _ from btq t 0]; unfold wrap32; omega
  have j0 : ∀ b, okR (value_escaped.j0 (k + 9) t (bt t 0) b) 9 := by
    intro b
    rw [value_escaped.j0]
    cases b
    · rw [if_neg (by decide)]
      refine okR_ite (fun _ => yes 10 (by omega) (by omega)) (fun _ => okR_ite (fun _ => yes 9 (by omega) (by omega)) (fun _ => okR_ite (fun _ => yes 13 (by omega) (by omega)) (fun _ => okR_ite (fun _ => okR_ite (fun h => ?_) (fun _ => j1 _ (.inr rfl))) (fun _ => no))))
      rw [if_pos (by omega)]
      exact j1 _ (.inl (by omega))
    · rw [if_pos rfl, if_pos (by omega), wb]; exact yes _ (by omega) (by omega)
  exact okR_ite (fun _ => j0 _) (fun _ => j0 _)
theorem num_last (u : ByteArray) (k i : Nat) (n : Int) (h1 : 1 ≤ i) (hi : i < 6) (hz : i < u.size) (h125 : byt u.data.toList i = 125) (h48 : byt u.data.toList 0 = 48 → i ≤ 1) (n0 : 0 ≤ n) (n1 : n ≤ 1114111) :
    value_numbered.l0 (k + 1) u n (i : Int) = some (n, ((i + 1 : Nat) : Int)) := by
  have w1 : wrap64 ((i : Int) + 1) = ((i + 1 : Nat) : Int) := by rw [w64 (by omega) (by omega)]; omega
  have w2 : wrap32 n = n := by unfold wrap32; omega
  have b0 : bt u 0 = (byt u.data.toList 0 : Int) := btq u 0
  rw [value_numbered.l0, if_pos (by omega), if_pos (by omega), if_pos (by omega), btq, digit_q _ (byt_lt _ _), h125, b0, Option.bind_some]
  rw [if_neg (by decide), if_neg (by omega), if_neg (by omega), if_pos (show ((125 : Nat) : Int) = 125 from rfl), if_pos (by omega), w1, w2]
  by_cases c : ((byt u.data.toList 0 : Nat) : Int) = 48
  · rw [if_pos c, if_neg (by have := h48 (by omega); omega), if_neg (by omega)]
  · rw [if_neg c, if_neg (by omega)]
/-- A written rune is read. -/
theorem esc_c (s : ByteArray) (c : Int) (hc : isCtl c = true) (hp : preB s (escB c) = true) (k : Nat) :
    value_escaped.f (k + 9) (s.extract 1 s.size) = some (c, ((escB c).size : Int) - 1) := by
  have hr := isCtl_lt c hc
  have hz := ((pre_iff _ _).1 hp).1
  have at1 : ∀ j, 1 + j < (escB c).size → bt (s.extract 1 s.size) (j : Int) = (byt (escB c).data.toList (1 + j) : Int) := fun j hj => by rw [bt_ext, pre_at hp _ hj]
  have at3 : ∀ j, 3 + j < (escB c).size → byt ((s.extract 1 s.size).extract 2 (s.extract 1 s.size).size).data.toList j = byt (escB c).data.toList (3 + j) := fun j hj => by
    rw [ext_ext, extract_toList, byt_drop, pre_at hp _ hj]
  have tz : (s.extract 1 s.size).size = s.size - 1 := by rw [ByteArray.size_extract]; omega
  have uz : ((s.extract 1 s.size).extract 2 (s.extract 1 s.size).size).size = s.size - 3 := by rw [ByteArray.size_extract, tz]; omega
  have two := fun n : Fin 128 => (by decide +kernel : ∀ n : Fin 128, isCtl (n.val : Int) = true → 2 ≤ (escB (n.val : Int)).size) n
  have two' := two ⟨c.toNat, by omega⟩
  simp only [Int.toNat_of_nonneg hr.1] at two'
  have z2 := two' hc
  generalize hT : s.extract 1 s.size = t at *
  have hne : ¬ t.toList = [] := fun h => by have := (toList_nil _).1 h; omega
  have b0 := at1 0 (by omega)
  unfold value_escaped.f
  rw [if_neg hne, if_pos (by omega)]
  by_cases cA : c = 34 ∨ c = 92
  · have e : (byt (escB c).data.toList (1 + 0) : Int) = c ∧ ((escB c).size : Int) - 1 = 1 := by rcases cA with rfl | rfl <;> decide +kernel
    rw [show bt t 0 = c from b0.trans e.1, e.2]
    have j : ∀ b, b = true → value_escaped.j0 (k + 9) t c b = some (c, 1) := fun b hb => by
      rw [value_escaped.j0, if_pos hb, if_pos (by omega), show bt t 0 = c from b0.trans e.1]
      congr 2
      unfold wrap32; omega
    rcases cA with h | h
    · rw [if_pos h]; exact j _ (by rw [h]; rfl)
    · rw [if_neg (by omega)]; exact j _ (by rw [h]; rfl)
  by_cases cB : c = 9 ∨ c = 10 ∨ c = 13
  · rcases cB with rfl | rfl | rfl
    · rw [show bt t 0 = 116 from b0.trans (by decide +kernel)]
      rw [if_neg (by decide), value_escaped.j0, if_neg (by decide), if_neg (by decide), if_pos rfl]
      decide +kernel
    · rw [show bt t 0 = 110 from b0.trans (by decide +kernel)]
      rw [if_neg (by decide), value_escaped.j0, if_neg (by decide), if_pos rfl]
      decide +kernel
    · rw [show bt t 0 = 114 from b0.trans (by decide +kernel)]
      rw [if_neg (by decide), value_escaped.j0, if_neg (by decide), if_neg (by decide), if_neg (by decide), if_pos rfl]
      decide +kernel
  have hN : ∀ X : Option (Int × Int), 5 ≤ (escB c).size → byt (escB c).data.toList 1 = 117 → byt (escB c).data.toList 2 = 123 → value_numbered.l0 (k + 7) (t.extract 2 t.size) 0 0 = some (c, ((escB c).size : Int) - 3) → (if bt t 0 = 34 then value_escaped.j0 (k + 9) t (bt t 0) (bt t 0 == 34) else value_escaped.j0 (k + 9) t (bt t 0) (bt t 0 == 92)) = some (c, ((escB c).size : Int) - 1) := by
    intro _ h5 e1 e2 e3
    have b1 := at1 1 (by omega)
    have b1' : bt t 1 = 123 := b1.trans (by rw [show 1 + 1 = 2 from rfl, e2]; rfl)
    rw [show bt t 0 = 117 from b0.trans (by rw [show 1 + 0 = 1 from rfl, e1]; rfl)]
    rw [if_neg (by decide), value_escaped.j0, if_neg (by decide), if_neg (by decide), if_neg (by decide), if_neg (by decide), if_pos rfl, if_pos (by omega), if_pos (by omega), b1', value_escaped.j1, if_pos (show ((123 : Int) == 123) = true from rfl), if_pos (by omega)]
    unfold value_numbered.f
    rw [e3, Option.bind_some]
    have le6 := escB_le c
    rw [if_pos (by omega), w64 (by omega) (by omega)]
    congr 2
    omega
  by_cases cC : c < 16
  · have all : ∀ n : Fin 16, n.val ≠ 9 → n.val ≠ 10 → n.val ≠ 13 → (escB (n.val : Int)).size = 5 ∧ byt (escB (n.val : Int)).data.toList 1 = 117 ∧ byt (escB (n.val : Int)).data.toList 2 = 123 ∧ hexV (byt (escB (n.val : Int)).data.toList 3) = n.val ∧ byt (escB (n.val : Int)).data.toList 4 = 125 := by decide +kernel
    have a := all ⟨c.toNat, by omega⟩
    simp only [Int.toNat_of_nonneg hr.1] at a
    obtain ⟨a1, a2, a3, a4, a5⟩ := a (by omega) (by omega) (by omega)
    refine hN none (by omega) a2 a3 ?_
    have s0 := num_step (t.extract 2 t.size) (k + 6) 0 0 c (by omega) (by omega) (by rw [at3 0 (by omega)]; exact a4) hr.1 (by omega) (by omega)
    have s1 := num_last (t.extract 2 t.size) (k + 5) 1 c (by omega) (by omega) (by omega) (by rw [at3 1 (by omega)]; exact a5) (fun _ => by omega) hr.1 (by omega)
    rw [show k + 7 = k + 6 + 1 by omega]
    refine s0.trans ?_
    rw [show 16 * 0 + c = c by omega, show k + 6 = k + 5 + 1 by omega]
    refine s1.trans ?_
    rw [a1]; rfl
  · have hcc : 16 ≤ c ∧ c < 32 ∨ c = 127 := by
      unfold isCtl at hc
      simp only [Bool.or_eq_true, decide_eq_true_eq, beq_iff_eq] at hc
      omega
    have all : ∀ n : Fin 128, (16 ≤ n.val ∧ n.val < 32 ∨ n.val = 127) → (escB (n.val : Int)).size = 6 ∧ byt (escB (n.val : Int)).data.toList 1 = 117 ∧ byt (escB (n.val : Int)).data.toList 2 = 123 ∧ hexV (byt (escB (n.val : Int)).data.toList 3) = (n.val / 16 : Nat) ∧ hexV (byt (escB (n.val : Int)).data.toList 4) = (n.val % 16 : Nat) ∧ byt (escB (n.val : Int)).data.toList 5 = 125 ∧ byt (escB (n.val : Int)).data.toList 3 ≠ 48 := by decide +kernel
    have a := all ⟨c.toNat, by omega⟩
    simp only [Int.toNat_of_nonneg hr.1] at a
    obtain ⟨a1, a2, a3, a4, a5, a6, a7⟩ := a (by omega)
    refine hN none (by omega) a2 a3 ?_
    have s0 := num_step (t.extract 2 t.size) (k + 6) 0 0 (c.toNat / 16 : Nat) (by omega) (by omega) (by rw [at3 0 (by omega)]; exact a4) (by omega) (by omega) (by omega)
    have s1 := num_step (t.extract 2 t.size) (k + 5) 1 (16 * 0 + (c.toNat / 16 : Nat)) (c.toNat % 16 : Nat) (by omega) (by omega) (by rw [at3 1 (by omega)]; exact a5) (by omega) (by omega) (by omega)
    have e : 16 * (16 * 0 + ((c.toNat / 16 : Nat) : Int)) + ((c.toNat % 16 : Nat) : Int) = c := by omega
    rw [e] at s1
    have s2 := num_last (t.extract 2 t.size) (k + 4) 2 c (by omega) (by omega) (by omega) (by rw [at3 2 (by omega)]; exact a6) (fun h => absurd h (by rw [at3 0 (by omega)]; exact a7)) hr.1 (by omega)
    exact (s0.trans (s1.trans (s2.trans (by rw [a1]; rfl))))
theorem next_j1 (s : ByteArray) (c n : Int) (h : 0 ≤ c) (k : Nat) : value_next.j1 (k + 1) s c n = some (if preB s (escB c) = true ∧ ((escB c).size : Int) = n then (c, n) else (0, 0)) := by
  rw [value_next.j1, show value_escape.f c = some (escB c) by unfold value_escape.f; rw [if_pos h]]
  simp only [Option.bind_some]
  rw [pre_q]
  simp only [Option.bind_some]
  by_cases a : preB s (escB c) = true
  · rw [if_pos a]
    by_cases b : ((escB c).size : Int) = n
    · rw [if_pos b, if_pos ⟨a, b⟩]
    · rw [if_neg b, if_neg (fun h => b h.2)]
  · rw [if_neg a, if_neg (fun h => a h.1)]
theorem list_ne {s : ByteArray} (h : s.size ≠ 0) : s.data.toList ≠ [] := by
  intro e
  apply h
  have := congrArg List.length e
  simpa [Array.length_toList] using this
/-- Behind a backslash. -/
theorem next_bs (s : ByteArray) (hs : s.size < 1000000) (hz : s.size ≠ 0) (h92 : byt s.data.toList 0 = 92) (k : Nat) :
    value_next.f (k + 10) s = some (match ctl s with | some c => ((c : Int), ((escB (c : Int)).size : Int)) | none => (0, 0)) := by
  have hd : Lib.decodeGo s = (92, 1) := by
    rw [decGo s hz, decodeL_byt, h92]
    unfold decodeN
    rw [if_pos (by omega)]
  unfold value_next.f utf8_DecodeRuneInString.f
  rw [hd]
  simp only [Option.bind_some]
  rw [if_neg (by decide), value_next.j0, if_neg (by decide), if_pos (by decide), if_pos (by omega)]
  cases e : ctl s with
  | some c =>
    obtain ⟨h1, h2, h3⟩ := ctl_lt s c e
    have hp := escB_pos c (by omega) (by omega)
    have two := (by decide +kernel : ∀ n : Fin 128, isCtl (n.val : Int) = true → 2 ≤ (escB (n.val : Int)).size) ⟨c, h1⟩ h2
    simp only at two
    have le6 := escB_le (c : Int)
    rw [esc_c s c h2 h3 k, Option.bind_some]
    dsimp only
    rw [if_neg (by omega), w64 (by omega) (by omega), next_j1 _ _ _ (by omega), if_pos ⟨h3, by omega⟩]
    simp
  | none =>
    obtain ⟨r1, r2, h, a1, a2, a3, a4⟩ := esc_tot (s.extract 1 s.size) (by rw [ByteArray.size_extract]; omega) k
    rw [h, Option.bind_some]
    dsimp only
    by_cases c : r2 = 0
    · rw [if_pos c]
    · rw [if_neg c, next_j1 _ _ _ a1, if_neg]
      rintro ⟨h1, h2⟩
      have w : wrap64 (r2 + 1) = r2 + 1 := w64 (by omega) (by omega)
      have h0 := pre_at h1 0 (by omega)
      have hc := escB_byte0 r1 a1 (by omega)
      rw [ctl_of s r1 hc h1] at e
      cases e
/-- Go's writing of a rune and the model's are the same bytes. -/
theorem enc_rune (r : Nat) (hv : r < 55296 ∨ (57343 < r ∧ r ≤ 1114111)) : (Utf8.encode (r : Int)).data.toList = encodeRune (r : Int) := by
  have hvalid : Utf8.valid (r : Int) = true := by
    unfold Utf8.valid
    simp only [Bool.or_eq_true, Bool.and_eq_true, decide_eq_true_eq]
    omega
  unfold Utf8.encode encodeRune
  simp only [hvalid, if_true, Int.toNat_natCast]
  by_cases c1 : r < 128
  · rw [if_pos c1, encodeRuneZ_one (by omega) (by omega)]; simp
  by_cases c2 : r < 2048
  · rw [if_neg c1, if_pos c2, encodeRuneZ_two (by omega) (by omega)]
    simp only [List.map_cons, List.map_nil]
    rw [show (192 + (r : Int) / 64).toNat = 192 + r / 64 by omega, show (128 + (r : Int) % 64).toNat = 128 + r % 64 by omega]
  by_cases c3 : r < 65536
  · rw [if_neg c1, if_neg c2, if_pos c3, encodeRuneZ_three (by omega)]
    simp only [List.map_cons, List.map_nil]
    rw [show (224 + (r : Int) / 4096).toNat = 224 + r / 4096 by omega, show (128 + (r : Int) / 64 % 64).toNat = 128 + r / 64 % 64 by omega, show (128 + (r : Int) % 64).toNat = 128 + r % 64 by omega]
  · rw [if_neg c1, if_neg c2, if_neg c3, encodeRuneZ_four (by omega) (by omega)]
    simp only [List.map_cons, List.map_nil]
    rw [show (240 + (r : Int) / 262144).toNat = 240 + r / 262144 by omega, show (128 + (r : Int) / 4096 % 64).toNat = 128 + r / 4096 % 64 by omega, show (128 + (r : Int) / 64 % 64).toNat = 128 + r / 64 % 64 by omega, show (128 + (r : Int) % 64).toNat = 128 + r % 64 by omega]
/-- What is decoded is a rune that may be, and is written as it stood there. -/
theorem dec_enc (l : List UInt8) (h : (dec l).2 ≠ 0) : decodeL l = dec l ∧ ((dec l).1 < 55296 ∨ (57343 < (dec l).1 ∧ (dec l).1 ≤ 1114111)) ∧ encodeRune ((dec l).1 : Int) = l.take (dec l).2 ∧ l ≠ [] := by
  have hne : l ≠ [] := by
    rintro rfl
    exact h rfl
  have e := dec_decodeL l hne
  have e2 : ¬ decodeL l = (65533, 1) := fun hh => by rw [if_pos hh] at e; rw [e] at h; exact h rfl
  rw [if_neg e2] at e
  refine ⟨e.symm, ?_, ?_, hne⟩
  · have h0 := byt_lt l 0
    have h1 := byt_lt l 1
    have h2 := byt_lt l 2
    have h3 := byt_lt l 3
    revert h
    unfold dec decR tl
    repeat' split
    all_goals first | (intro h; exact absurd rfl h) | (intro h; simp only; omega)
  · rw [e]
    exact encode_decode l hne (fun hh => e2 (Prod.ext hh.1 hh.2))
theorem dec_byte0 (l : List UInt8) (h : (dec l).2 ≠ 0) (hc : (dec l).1 < 128) : byt l 0 = (dec l).1 := by
  have h0 := byt_lt l 0
  have h1 := byt_lt l 1
  have h2 := byt_lt l 2
  have h3 := byt_lt l 3
  revert h hc
  unfold dec decR tl
  repeat' split
  all_goals first | (intro h; exact absurd rfl h) | (intro h hc; simp only at hc ⊢ <;> omega)
/-- Without a backslash. -/
theorem next_pl (s : ByteArray) (hz : s.size ≠ 0) (h92 : byt s.data.toList 0 ≠ 92) (h34 : byt s.data.toList 0 ≠ 34) (k : Nat) :
    value_next.f (k + 10) s = some (if (dec s.data.toList).2 = 0 ∨ (dec s.data.toList).1 < 32 ∨ (dec s.data.toList).1 = 127 then (0, 0) else (((dec s.data.toList).1 : Int), ((dec s.data.toList).2 : Int))) := by
  have hne := list_ne hz
  have hl : s.data.toList.length = s.size := Array.length_toList
  unfold value_next.f utf8_DecodeRuneInString.f
  rw [decGo s hz]
  simp only [Option.bind_some]
  by_cases hd : (dec s.data.toList).2 = 0
  · have e := dec_decodeL s.data.toList hne
    have e2 : decodeL s.data.toList = (65533, 1) := by
      by_cases h : decodeL s.data.toList = (65533, 1)
      · exact h
      · rw [if_neg h] at e
        have hw : 1 ≤ (decodeL s.data.toList).2 := Lib.width_pos _ 0
        rw [← e] at hw
        omega
    rw [e2, if_pos (by decide), value_next.j0, if_pos (by decide), if_pos (.inl hd)]
  · obtain ⟨e, hv, he, _⟩ := dec_enc s.data.toList hd
    rw [e]
    have hj : ∀ b, (b = false) → value_next.j0 (k + 10) s ((dec s.data.toList).1 : Int) ((dec s.data.toList).2 : Int) b = some (if (dec s.data.toList).2 = 0 ∨ (dec s.data.toList).1 < 32 ∨ (dec s.data.toList).1 = 127 then (0, 0) else (((dec s.data.toList).1 : Int), ((dec s.data.toList).2 : Int))) := by
      intro b hb
      have hw := dec_width s.data.toList
      have n92 : (dec s.data.toList).1 ≠ 92 := fun h => h92 ((dec_byte0 _ hd (by omega)).trans h)
      have n34 : (dec s.data.toList).1 ≠ 34 := fun h => h34 ((dec_byte0 _ hd (by omega)).trans h)
      rw [value_next.j0, hb, if_neg (by decide), if_neg (by omega), next_j1 _ _ _ (by omega)]
      by_cases hc : (dec s.data.toList).1 < 32 ∨ (dec s.data.toList).1 = 127
      · have hno : ¬ (preB s (escB ((dec s.data.toList).1 : Int)) = true ∧ ((escB ((dec s.data.toList).1 : Int)).size : Int) = ((dec s.data.toList).2 : Int)) := by
          rintro ⟨h1, h2⟩
          have hic : isCtl ((dec s.data.toList).1 : Int) = true := by
            unfold isCtl
            simp only [Bool.or_eq_true, decide_eq_true_eq, beq_iff_eq]
            omega
          have hp := escB_pos ((dec s.data.toList).1 : Int) (by omega) (by omega)
          exact h92 ((pre_at h1 0 hp).trans (isCtl_byte0 _ hic))
        have hD : (dec s.data.toList).2 = 0 ∨ (dec s.data.toList).1 < 32 ∨ (dec s.data.toList).1 = 127 := .inr hc
        rw [if_neg hno, if_pos hD]
      · have eb : escB ((dec s.data.toList).1 : Int) = Utf8.encode ((dec s.data.toList).1 : Int) := by
          unfold escB
          rw [if_neg (by omega), if_neg (by omega), if_neg (by omega), if_neg (by omega), if_neg (by omega)]
        have er := enc_rune (dec s.data.toList).1 hv
        have ez : (Utf8.encode ((dec s.data.toList).1 : Int)).size = (dec s.data.toList).2 := by
          have e1 : (Utf8.encode ((dec s.data.toList).1 : Int)).size = (Utf8.encode ((dec s.data.toList).1 : Int)).data.toList.length := size_len _
          rw [e1, er, he, List.length_take]
          omega
        have hyes : preB s (escB ((dec s.data.toList).1 : Int)) = true ∧ ((escB ((dec s.data.toList).1 : Int)).size : Int) = ((dec s.data.toList).2 : Int) := by
          rw [eb]
          refine ⟨(pre_iff _ _).2 ⟨by omega, ?_⟩, by omega⟩
          rw [ez, er, he]
        have hD : ¬ ((dec s.data.toList).2 = 0 ∨ (dec s.data.toList).1 < 32 ∨ (dec s.data.toList).1 = 127) := by
          rintro (h | h)
          · exact hd h
          · exact hc h
        rw [if_pos hyes, if_neg hD]
    by_cases hc : ((dec s.data.toList).1 : Int) = 65533
    · rw [if_pos hc]
      apply hj
      apply decide_eq_false
      intro hlt
      have hw : (dec s.data.toList).2 = 1 := by omega
      have : (dec s.data.toList).1 < 128 := by
        revert hw
        unfold dec decR tl
        repeat' split
        all_goals first | (intro h; simp at h; done) | (intro h; simp only; omega)
      omega
    · rw [if_neg hc]
      exact hj _ rfl
end Go.Proofs.YtoajlmmkkcelgaaDoor.U8
namespace Go.Proofs.YtoajlmmkkcelgaaDoor.U8
open Go.RowKit Go.Proofs.YtoajlmmkkcelgaaDoor.A Go.Proofs.YtoajlmmkkcelgaaDoorW.PrintWords Go.Proofs.YtoajlmmkkcelgaaDoorW.PrintLast Go.Lib
set_option linter.unusedVariables false
set_option linter.unusedSimpArgs false
abbrev ScanR := Int × Int × ByteArray × ByteArray × Int
def errR (e : Int) : ScanR := (0, 0, (⟨#[]⟩ : ByteArray), (⟨#[]⟩ : ByteArray), e)
/-- A text's inside, from place i on: what it says so far is acc. -/
def txtGo (s : ByteArray) : Nat → Nat → List UInt8 → ScanR
  | 0, _, _ => errR 3
  | m + 1, i, acc =>
    if s.size ≤ i then errR 3
    else if byt s.data.toList i = 34 then (if acc.length > 200 then errR 2 else (2, 0, ⟨acc.toArray⟩, s.extract (i + 1) s.size, 0))
    else if byt s.data.toList i = 92 then (match ctl (s.extract i s.size) with
      | some c => txtGo s m (i + (escB (c : Int)).size) (acc ++ encodeRune (c : Int))
      | none => errR 3)
    else if (dec (s.data.toList.drop i)).2 = 0 ∨ (dec (s.data.toList.drop i)).1 < 32 ∨ (dec (s.data.toList.drop i)).1 = 127 then errR 3
    else txtGo s m (i + (dec (s.data.toList.drop i)).2) (acc ++ encodeRune ((dec (s.data.toList.drop i)).1 : Int))
theorem byt_ext (s : ByteArray) (i j : Nat) : byt (s.extract i s.size).data.toList j = byt s.data.toList (i + j) := by rw [extract_toList, byt_drop]
theorem ctl_size (s : ByteArray) (c : Nat) (h : ctl s = some c) : 2 ≤ (escB (c : Int)).size ∧ (escB (c : Int)).size ≤ 6 ∧ (escB (c : Int)).size ≤ s.size ∧ c < 128 := by
  obtain ⟨h1, h2, h3⟩ := ctl_lt s c h
  have two := (by decide +kernel : ∀ n : Fin 128, isCtl (n.val : Int) = true → 2 ≤ (escB (n.val : Int)).size) ⟨c, h1⟩ h2
  exact ⟨two, escB_le _, ((pre_iff _ _).1 h3).1, h1⟩
theorem text_q (s : ByteArray) (hs : s.size < 1000000) (K : Nat) : ∀ (m i : Nat) (acc : List UInt8), i ≤ s.size → s.size - i < m → value_text.go (K + 10) m (s.extract i s.size) acc = some (txtGo s m i acc)
  | 0, i, acc, h1, h2 => by omega
  | m + 1, i, acc, h1, h2 => by
    have hz : (s.extract i s.size).size = s.size - i := by rw [ByteArray.size_extract]; omega
    rw [value_text.go, txtGo]
    by_cases hi : i = s.size
    · rw [if_pos (by omega), if_pos (by omega)]; rfl
    rw [if_neg (show ¬ (s.extract i s.size).size = 0 by omega), if_neg (show ¬ s.size ≤ i by omega), bt_ext0]
    by_cases h34 : byt s.data.toList i = 34
    · rw [if_pos (show ((byt s.data.toList i : Nat) : Int) = 34 by omega), if_pos h34, ext_ext]
      by_cases h200 : acc.length > 200
      · rw [if_pos h200, if_pos h200]; rfl
      · rw [if_neg h200, if_neg h200]
    rw [if_neg (show ¬ ((byt s.data.toList i : Nat) : Int) = 34 by omega), if_neg h34]
    by_cases h92 : byt s.data.toList i = 92
    · rw [if_pos h92, next_bs (s.extract i s.size) (by omega) (by omega) (by rw [byt_ext]; exact h92) K, Option.bind_some]
      cases e : ctl (s.extract i s.size) with
      | none => dsimp only; rw [if_pos rfl]; rfl
      | some c =>
        have hc := ctl_size _ c e
        dsimp only
        rw [if_neg (by omega), if_pos (by omega), Int.toNat_natCast, ext_ext]
        exact text_q s hs K m (i + (escB (c : Int)).size) _ (by omega) (by omega)
    · rw [if_neg h92, next_pl (s.extract i s.size) (by omega) (by rw [byt_ext]; exact h92) (by rw [byt_ext]; exact h34) K, Option.bind_some, extract_toList]
      by_cases hd : (dec (s.data.toList.drop i)).2 = 0 ∨ (dec (s.data.toList.drop i)).1 < 32 ∨ (dec (s.data.toList.drop i)).1 = 127
      · rw [if_pos hd, if_pos hd, if_pos rfl]; rfl
      · have hw := dec_width (s.data.toList.drop i)
        have hl : (s.data.toList.drop i).length = s.size - i := by rw [List.length_drop, ← size_len]
        rw [if_neg hd, if_neg hd]
        dsimp only
        rw [if_neg (by omega), if_pos (by omega), Int.toNat_natCast, ext_ext]
        exact text_q s hs K m (i + (dec (s.data.toList.drop i)).2) _ (by omega) (by omega)
theorem mk_size (acc : List UInt8) : (⟨acc.toArray⟩ : ByteArray).size = acc.length := by
  show acc.toArray.size = _
  exact List.size_toArray ..
theorem ext_part (s : ByteArray) (i n : Nat) (h : i + n ≤ s.size) : (s.extract i (i + n)).data.toList = (s.data.toList.drop i).take n := by
  rw [ByteArray.data_extract, Array.toList_extract]
  simp [List.extract_eq_take_drop]
/-- The text at the front. -/
def txtS (s : ByteArray) : ScanR := txtGo s (s.size + 1) 1 []
theorem txt_q (s : ByteArray) (hs : s.size < 1000000) (hz : s.size ≠ 0) (k : Nat) (hk : s.size + 10 ≤ k) : value_text.f k s = some (txtS s) := by
  have h0 : value_text.f (s.size + 10) s = some (txtGo s (s.size + 10) 1 []) := by
    unfold value_text.f
    rw [if_pos ⟨by omega, by omega⟩]
    exact text_q s hs s.size (s.size + 10) 1 [] (by omega) (by omega)
  have ind : ∀ m i acc, i ≤ s.size → s.size - i < m → txtGo s (m + 1) i acc = txtGo s m i acc := by
    intro m
    induction m with
    | zero => intro i acc h1 h2; omega
    | succ m ih =>
      intro i acc h1 h2
      have e1 := text_q s hs 0 (m + 1) i acc h1 h2
      have e2 := text_q s hs 0 (m + 1 + 1) i acc h1 (by omega)
      have e3 := value_text.mono_go 10 (m + 1) (s.extract i s.size) acc _ e1
      have e4 := text_q s hs 1 (m + 1 + 1) i acc h1 (by omega)
      exact Option.some.inj (e4.symm.trans e3)
  have inds : ∀ n, txtGo s (s.size + 1 + n) 1 [] = txtGo s (s.size + 1) 1 [] := by
    intro n
    induction n with
    | zero => rfl
    | succ n ih => rw [← ih]; exact ind (s.size + 1 + n) 1 [] (by omega) (by omega)
  have e := inds 9
  rw [show s.size + 1 + 9 = s.size + 10 by omega] at e
  rw [e] at h0
  exact at_rounds (fun k => value_text.mono s k) hk h0
theorem b0_at (s : ByteArray) : bt s 0 = (byt s.data.toList 0 : Int) := btq s 0
end Go.Proofs.YtoajlmmkkcelgaaDoor.U8
namespace Go.Proofs.YtoajlmmkkcelgaaDoor.U8
open Go.RowKit Go.Proofs.YtoajlmmkkcelgaaDoor.A Go.Proofs.YtoajlmmkkcelgaaDoorW.PrintWords Go.Proofs.YtoajlmmkkcelgaaDoorW.PrintLast Go.Lib
set_option linter.unusedVariables false
set_option linter.unusedSimpArgs false
/-- The integer at the front. -/
def intX (s : ByteArray) : ScanR := intR s (sg s) (dg (s.data.toList.drop (sg s))) (nv 0 ((s.data.toList.drop (sg s)).take (dg (s.data.toList.drop (sg s)))))
/-- The value at the front of a text. -/
def scanX (s : ByteArray) : ScanR :=
  if s.size = 0 then errR 3
  else if byt s.data.toList 0 = 34 then txtS s
  else if preB s (⟨#[120, 39]⟩ : ByteArray) = true then hexGo s s.size 2 []
  else if byt s.data.toList 0 = 45 ∨ (48 ≤ byt s.data.toList 0 ∧ byt s.data.toList 0 ≤ 57) then intX s
  else boolS s
theorem scan_x (s : ByteArray) (hs : s.size < 100000) (k : Nat) (hk : 1000000 ≤ k) : value_Scan.f k s = some (scanX s) := by
  unfold scanX value_Scan.f
  by_cases h0 : s.toList = ([] : List UInt8)
  · rw [if_pos h0, if_pos ((toList_nil s).1 h0)]; rfl
  have hz : s.size ≠ 0 := fun h => h0 ((toList_nil s).2 h)
  have hp : 0 < (s.size : Int) := by omega
  rw [if_neg h0, if_pos hp, if_neg hz, b0_at]
  by_cases h34 : byt s.data.toList 0 = 34
  · rw [if_pos (by omega), if_pos h34, txt_q s (by omega) hz k (by omega), Option.bind_some]
  rw [if_neg (by omega), if_neg h34, pre_q, Option.bind_some]
  by_cases hx : preB s (⟨#[120, 39]⟩ : ByteArray) = true
  · rw [if_pos hx, if_pos hx, at_rounds (fun k => value_bytes.mono s k) (show 0 + 3 * s.size + 4 ≤ k by omega) (hexes_go s (by omega) (pre_size hx) 0).1, Option.bind_some]
  rw [if_neg hx, if_neg hx]
  obtain ⟨k, rfl⟩ : ∃ q, k = q + 10 := ⟨k - 10, by omega⟩
  by_cases hd : byt s.data.toList 0 = 45 ∨ (48 ≤ byt s.data.toList 0 ∧ byt s.data.toList 0 ≤ 57)
  · rw [if_pos hd]
    have e1 := int_q s (by omega) hz 0 _ (fun _ => rfl)
    have i1 : value_Scan.j0 (k + 10) s true = some (intX s) := by
      rw [show k + 10 = k + 9 + 1 by omega, value_Scan.j0, if_pos rfl, at_rounds (fun k => value_integer.mono s k) (show 0 + s.size + 2 ≤ k + 9 by omega) e1, Option.bind_some]
      rfl
    by_cases c45 : byt s.data.toList 0 = 45
    · rw [if_pos (by omega)]; exact i1
    · rw [if_neg (by omega), if_pos (by omega), show decide (((byt s.data.toList 0 : Nat) : Int) ≤ 57) = true from decide_eq_true (by omega)]; exact i1
  · rw [if_neg hd]
    have i1 : value_Scan.j0 (k + 10) s false = some (boolS s) := by
      rw [show k + 10 = k + 5 + 4 + 1 by omega, value_Scan.j0, if_neg (by decide), bool_q s (k + 5), Option.bind_some]
    rw [if_neg (by omega)]
    by_cases c48 : ((byt s.data.toList 0 : Nat) : Int) ≥ 48
    · rw [if_pos c48, show decide (((byt s.data.toList 0 : Nat) : Int) ≤ 57) = false from decide_eq_false (by omega)]; exact i1
    · rw [if_neg c48]; exact i1
end Go.Proofs.YtoajlmmkkcelgaaDoor.U8
namespace Go.Proofs.YtoajlmmkkcelgaaDoor.U8
open Go.RowKit Go.Proofs.YtoajlmmkkcelgaaDoor.A Go.Proofs.YtoajlmmkkcelgaaDoorW.PrintWords Go.Proofs.YtoajlmmkkcelgaaDoorW.PrintLast Go.Lib
set_option linter.unusedVariables false
set_option linter.unusedSimpArgs false
/-- Digits alone. -/
def allD (l : List UInt8) : Prop := ∀ b ∈ l, 48 ≤ b.toNat ∧ b.toNat ≤ 57
theorem dgb (d : Nat) (h : d < 10) : (UInt8.ofNat (48 + d)).toNat = 48 + d := by rw [UInt8.toNat_ofNat']; omega
theorem dd_all (u : Nat) : allD (decDigits u) := by
  induction u using Nat.strongRecOn with
  | _ u ih =>
    by_cases h : u < 10
    · rw [decDigits, dif_pos h]
      intro b hb
      rw [List.mem_singleton] at hb
      rw [hb, dgb u h]; omega
    · rw [decDigits, dif_neg h]
      intro b hb
      rcases List.mem_append.1 hb with hb | hb
      · exact ih (u / 10) (by omega) b hb
      · rw [List.mem_singleton] at hb
        rw [hb, dgb _ (by omega)]; omega
theorem nv_app : ∀ (l : List UInt8) (a : Nat) (b : UInt8), nv a (l ++ [b]) = dv (nv a l) b
  | [], a, b => rfl
  | c :: l, a, b => nv_app l (dv a c) b
theorem dd_nv (u : Nat) : nv 0 (decDigits u) = u := by
  induction u using Nat.strongRecOn with
  | _ u ih =>
    by_cases h : u < 10
    · rw [decDigits, dif_pos h]
      show dv 0 _ = u
      rw [dv_eq, dgb u h]; omega
    · rw [decDigits, dif_neg h, nv_app, ih (u / 10) (by omega), dv_eq, dgb _ (by omega)]; omega
theorem dd_len (u : Nat) : 1 ≤ (decDigits u).length := by rw [decDigits_length]; exact nDigits_pos u
theorem nd_le : ∀ (k u : Nat), u < 10 ^ (k + 1) → nDigits u ≤ k + 1
  | 0, u, h => by rw [nDigits_small (by simpa using h)]; omega
  | k + 1, u, h => by
    by_cases c : u < 10
    · rw [nDigits_small c]; omega
    · rw [nDigits_big c]
      have := nd_le k (u / 10) (by rw [Nat.pow_succ] at h; omega)
      omega
theorem dd_le (u : Nat) (h : u ≤ 9007199254740991) : (decDigits u).length ≤ 16 := by
  rw [decDigits_length]
  refine nd_le 15 u ?_
  have e : 10 ^ (15 + 1) = 10000000000000000 := by decide
  rw [e]; omega
theorem byt_app0 (a b : List UInt8) (h : 1 ≤ a.length) : byt (a ++ b) 0 = byt a 0 := by
  cases a with
  | nil => simp at h
  | cons x t => rfl
theorem dd_first (u : Nat) : (byt (decDigits u) 0 = 48 → u = 0) ∧ 48 ≤ byt (decDigits u) 0 ∧ byt (decDigits u) 0 ≤ 57 := by
  induction u using Nat.strongRecOn with
  | _ u ih =>
    by_cases h : u < 10
    · rw [decDigits, dif_pos h]
      show ((UInt8.ofNat (48 + u)).toNat = 48 → u = 0) ∧ 48 ≤ (UInt8.ofNat (48 + u)).toNat ∧ (UInt8.ofNat (48 + u)).toNat ≤ 57
      rw [dgb u h]; omega
    · rw [decDigits, dif_neg h, byt_app0 _ _ (dd_len _)]
      obtain ⟨i1, i2, i3⟩ := ih (u / 10) (by omega)
      exact ⟨fun e => by have := i1 e; omega, i2, i3⟩
theorem dg_app : ∀ (l r : List UInt8), allD l → dg r = 0 → dg (l ++ r) = l.length
  | [], r, h, hr => hr
  | b :: l, r, h, hr => by
    rw [List.cons_append, dg_pos b _ (h b (List.mem_cons_self ..)), dg_app l r (fun x hx => h x (List.mem_cons_of_mem _ hx)) hr]; rfl
theorem dg_all : ∀ l : List UInt8, allD (l.take (dg l))
  | [] => fun b hb => by simp [dg] at hb
  | b :: l => by
    by_cases h : 48 ≤ b.toNat ∧ b.toNat ≤ 57
    · rw [dg_pos b l h, List.take_succ_cons]
      intro x hx
      rcases List.mem_cons.1 hx with rfl | hx
      · exact h
      · exact dg_all l x hx
    · rw [dg_neg b l h]
      intro x hx; simp at hx
theorem dd_nvs : ∀ (l : List UInt8) (a : Nat), 1 ≤ a → allD l → decDigits (nv a l) = decDigits a ++ l
  | [], a, h, hl => by rw [List.append_nil]; rfl
  | b :: l, a, h, hl => by
    have hb := hl b (List.mem_cons_self ..)
    rw [nv_cons, dd_nvs l (dv a b) (by rw [dv_eq]; omega) (fun x hx => hl x (List.mem_cons_of_mem _ hx))]
    have e : decDigits (dv a b) = decDigits a ++ [b] := by
      rw [decDigits, dif_neg (by rw [dv_eq]; omega), dv_eq, show (a * 10 + (b.toNat - 48)) / 10 = a by omega, show 48 + (a * 10 + (b.toNat - 48)) % 10 = b.toNat by omega, UInt8.ofNat_toNat]
    rw [e, List.append_assoc]; rfl
theorem dd_back (l : List UInt8) (hl : allD l) (h1 : 1 ≤ l.length) (h2 : byt l 0 = 48 → l.length = 1) : decDigits (nv 0 l) = l := by
  cases l with
  | nil => simp at h1
  | cons b t =>
    have hb := hl b (List.mem_cons_self ..)
    have e : dv 0 b = b.toNat - 48 := by rw [dv_eq]; omega
    have e1 : decDigits (dv 0 b) = [b] := by
      rw [e, decDigits, dif_pos (by omega), show 48 + (b.toNat - 48) = b.toNat by omega, UInt8.ofNat_toNat]
    by_cases h48 : b.toNat = 48
    · have : t = [] := List.eq_nil_of_length_eq_zero (by have := h2 h48; simp at this; simp [this])
      subst this
      exact e1
    · rw [nv_cons, dd_nvs t (dv 0 b) (by rw [e]; omega) (fun x hx => hl x (List.mem_cons_of_mem _ hx)), e1]; rfl
theorem itoa_neg' (n : Int) (h : n < 0) : itoa n = 45 :: decDigits n.natAbs := by unfold itoa; rw [if_pos h]
theorem itoa_pos' (n : Int) (h : ¬ n < 0) : itoa n = decDigits n.toNat := by unfold itoa; rw [if_neg h]
/-- An integer that is written is read. -/
theorem int_fwd (s : ByteArray) (n : Int) (h0 : -9007199254740991 ≤ n) (h1 : n ≤ 9007199254740991) (r : List UInt8) (hr : dg r = 0) (hs : s.data.toList = itoa n ++ r) :
    intX s = (1, n, ⟨#[]⟩, s.extract (itoa n).length s.size, 0) := by
  unfold intX intR
  by_cases hn : n < 0
  · have hsg : sg s = 1 := by
      unfold sg
      rw [hs, itoa_neg' n hn, if_pos (by rfl)]
    have hd : s.data.toList.drop 1 = decDigits n.natAbs ++ r := by rw [hs, itoa_neg' n hn]; rfl
    have hl := dd_len n.natAbs
    have hl2 := dd_le n.natAbs (by omega)
    have hf := dd_first n.natAbs
    have hb : byt s.data.toList 1 = byt (decDigits n.natAbs) 0 := by
      rw [← byt_app0 _ r hl, ← hd, byt_drop]
    rw [hsg, hd, dg_app _ _ (dd_all _) hr, List.take_left' rfl, dd_nv, if_neg (by omega), if_neg (fun e => by have := hf.1 (by rw [← hb]; exact e.1); omega), if_neg (by omega), if_pos rfl, itoa_neg' n hn, List.length_cons, show (-((n.natAbs : Nat) : Int)) = n by omega, Nat.add_comm]
  · have hl := dd_len n.toNat
    have hl2 := dd_le n.toNat (by omega)
    have hf := dd_first n.toNat
    rw [itoa_pos' n hn] at hs ⊢
    have hb : byt s.data.toList 0 = byt (decDigits n.toNat) 0 := by rw [hs, byt_app0 _ r hl]
    have hsg : sg s = 0 := by
      unfold sg
      rw [if_neg (by omega)]
    have hd : s.data.toList.drop 0 = decDigits n.toNat ++ r := by rw [hs]; rfl
    have hz : byt s.data.toList 0 = 48 → (decDigits n.toNat).length = 1 := fun e => by
      rw [hf.1 (by rw [← hb]; exact e)]
      rw [decDigits_length, nDigits_small (by omega)]
    rw [hsg, hd, dg_app _ _ (dd_all _) hr, List.take_left' rfl, dd_nv, if_neg (by omega), if_neg (fun e => by have := hz e.1; omega), if_neg (by omega), if_neg (by omega), show ((n.toNat : Nat) : Int) = n by omega, Nat.zero_add]
/-- What is read as an integer was written so. -/
theorem int_back (s : ByteArray) (K N : Int) (S rest : ByteArray) (h : intX s = (K, N, S, rest, 0)) : K = 1 ∧ -9007199254740991 ≤ N ∧ N ≤ 9007199254740991 ∧ S = ⟨#[]⟩ ∧ s.data.toList = itoa N ++ rest.data.toList := by
  unfold intX intR at h
  have hall := dg_all (s.data.toList.drop (sg s))
  have hle := dg_le (s.data.toList.drop (sg s))
  have hsg : (sg s = 1 ∧ byt s.data.toList 0 = 45) ∨ (sg s = 0 ∧ byt s.data.toList 0 ≠ 45) := by
    unfold sg
    by_cases c : byt s.data.toList 0 = 45
    · rw [if_pos c]; exact .inl ⟨rfl, c⟩
    · rw [if_neg c]; exact .inr ⟨rfl, c⟩
  by_cases c0 : dg (s.data.toList.drop (sg s)) = 0
  · rw [if_pos c0] at h; simp at h
  rw [if_neg c0] at h
  by_cases c1 : byt s.data.toList (sg s) = 48 ∧ (1 < dg (s.data.toList.drop (sg s)) ∨ sg s = 1)
  · rw [if_pos c1] at h; simp at h
  rw [if_neg c1] at h
  generalize hcnt : dg (s.data.toList.drop (sg s)) = cnt at *
  generalize htk : (s.data.toList.drop (sg s)).take cnt = t at *
  by_cases c2 : 16 < cnt ∨ 9007199254740991 < nv 0 t
  · rw [if_pos c2] at h; simp at h
  rw [if_neg c2] at h
  simp only [Prod.mk.injEq] at h
  obtain ⟨rfl, hN, rfl, rfl, _⟩ := h
  have htl : t.length = cnt := by rw [← htk, List.length_take]; omega
  have hb0 : byt t 0 = byt s.data.toList (sg s) := by rw [← htk, byt_take _ _ _ (by omega), byt_drop]; rfl
  have hdd : decDigits (nv 0 t) = t := dd_back t hall (by omega) (fun e => by
    have : ¬ (1 < cnt ∨ sg s = 1) := fun x => c1 ⟨by rw [← hb0]; exact e, x⟩
    omega)
  refine ⟨rfl, by split at hN <;> omega, by split at hN <;> omega, rfl, ?_⟩
  rw [extract_toList, ← List.drop_drop]
  have hsp : t ++ (s.data.toList.drop (sg s)).drop cnt = s.data.toList.drop (sg s) := by rw [← htk, List.take_append_drop]
  rcases hsg with ⟨e1, e2⟩ | ⟨e1, e2⟩
  · rw [e1] at hsp hN hb0 c1 hcnt
    rw [if_pos rfl] at hN
    have hnz : nv 0 t ≠ 0 := fun e => by
      have := (dd_first (nv 0 t))
      rw [hdd] at this
      have e48 : byt t 0 = 48 := by
        rw [← hdd, e, decDigits, dif_pos (by omega)]; rfl
      exact c1 ⟨by rw [← hb0]; exact e48, .inr rfl⟩
    rw [e1, ← hN, itoa_neg' _ (by omega), Int.natAbs_neg, Int.natAbs_natCast, hdd, List.cons_append, hsp]
    have hne : 0 < s.data.toList.length := by rw [List.length_drop] at hle; omega
    obtain ⟨b, e, hb⟩ := drop_at s.data.toList 0 hne
    rw [List.drop_zero] at e
    rw [e2] at hb
    have : b = 45 := UInt8.toNat_inj.1 (by rw [← hb]; rfl)
    rw [this] at e
    exact e
  · rw [e1] at hsp hN
    rw [if_neg (by omega)] at hN
    rw [e1, ← hN, itoa_pos' _ (by omega), Int.toNat_natCast, hdd, hsp, List.drop_zero]
end Go.Proofs.YtoajlmmkkcelgaaDoor.U8
namespace Go.Proofs.YtoajlmmkkcelgaaDoor.U8
open Go.RowKit Go.Proofs.YtoajlmmkkcelgaaDoor.A Go.Proofs.YtoajlmmkkcelgaaDoorW.PrintWords Go.Proofs.YtoajlmmkkcelgaaDoorW.PrintLast Go.Lib
set_option linter.unusedVariables false
set_option linter.unusedSimpArgs false
theorem get_byt2 (s : ByteArray) (i : Nat) : (s.get! i).toNat = byt s.data.toList i := by
  have := get_byt s.data.toList i
  have e : (⟨s.data.toList.toArray⟩ : ByteArray) = s := by cases s; simp
  rwa [e] at this
theorem decode_drop (s : ByteArray) (i : Nat) : Utf8.decode s i = decodeL (s.data.toList.drop i) := by
  rw [decode_at, decodeL_byt, get_byt2, get_byt2, get_byt2, get_byt2, byt_drop, byt_drop, byt_drop, byt_drop, List.length_drop, ← size_len]
  rfl
theorem decode_dec (s : ByteArray) (i : Nat) (hi : i < s.size) (h : (dec (s.data.toList.drop i)).2 ≠ 0) : Utf8.decode s i = dec (s.data.toList.drop i) := by
  have hne : s.data.toList.drop i ≠ [] := by
    intro e
    have := congrArg List.length e
    rw [List.length_drop, ← size_len] at this
    simp at this
    omega
  rw [decode_drop]
  have e := dec_decodeL _ hne
  by_cases hb : decodeL (s.data.toList.drop i) = (65533, 1)
  · rw [if_pos hb] at e; rw [e] at h; exact absurd rfl h
  · rw [if_neg hb] at e; exact e.symm
/-- The runes of a text, as far as it is UTF-8. -/
def runesF : Nat → List UInt8 → List Nat
  | 0, _ => []
  | f + 1, l => if l.isEmpty then [] else if (dec l).2 = 0 then [] else (dec l).1 :: runesF f (l.drop (dec l).2)
def runesOf (l : List UInt8) : List Nat := runesF l.length l
def ints (l : List Nat) : List Int := l.map (fun x : Nat => (x : Int))
theorem runes_l0 (s : ByteArray) (hs : s.size < 1000000) (k : Nat) : ∀ (m i : Nat) (xs : List Int), i ≤ s.size → s.size - i ≤ m → xs.length ≤ i → caduceusref02_Runes.l0 (k + m + 7) s xs (i : Int) = some (xs ++ ints (runesF m (s.data.toList.drop i)))
  | 0, i, xs, h1, h2, h3 => by
    rw [show k + 0 + 7 = k + 6 + 1 by omega, caduceusref02_Runes.l0, if_neg (by omega)]
    show some xs = some (xs ++ [])
    rw [List.append_nil]
  | m + 1, i, xs, h1, h2, h3 => by
    have hl : (s.data.toList.drop i).length = s.size - i := by rw [List.length_drop, ← size_len]
    rw [show k + (m + 1) + 7 = k + m + 7 + 1 by omega, caduceusref02_Runes.l0, runesF]
    by_cases hi : i = s.size
    · have e : s.data.toList.drop i = [] := List.drop_of_length_le (by rw [← size_len]; omega)
      rw [if_neg (by omega), e]
      show some xs = some (xs ++ [])
      rw [List.append_nil]
    · have hne : ¬ ((s.data.toList.drop i).isEmpty = true) := by
        intro h; rw [List.isEmpty_iff] at h; rw [h] at hl; simp at hl; omega
      have hw := dec_width (s.data.toList.drop i)
      have hf := first_dec (s.extract i s.size) (k + m + 2)
      rw [extract_toList] at hf
      rw [if_neg hne, if_pos (by omega), if_pos (by omega), if_pos (by omega), Int.toNat_natCast, show k + m + 7 = k + m + 2 + 5 by omega, hf, Option.bind_some]
      dsimp only
      by_cases hz : (dec (s.data.toList.drop i)).2 = 0
      · rw [if_pos (by omega), if_pos hz]
        show some xs = some (xs ++ [])
        rw [List.append_nil]
      · rw [if_neg (by omega), if_neg hz, if_pos (by omega), w64 (by omega) (by omega), show ((i : Int) + ((dec (s.data.toList.drop i)).2 : Int)) = ((i + (dec (s.data.toList.drop i)).2 : Nat) : Int) by omega, show k + m + 2 + 5 = k + m + 7 by omega]
        rw [runes_l0 s hs k m (i + (dec (s.data.toList.drop i)).2) _ (by omega) (by omega) (by rw [List.length_append]; show xs.length + 1 ≤ _; omega), List.append_assoc, ← List.drop_drop]
        rfl
theorem runes_ev (s : ByteArray) (hs : s.size < 1000000) (k : Nat) (hk : s.size + 7 ≤ k) : caduceusref02_Runes.f k s = some (ints (runesOf s.data.toList)) := by
  have h := runes_l0 s hs 0 s.size 0 [] (by omega) (by omega) (by simp)
  have h0 : caduceusref02_Runes.f (s.size + 7) s = some (ints (runesOf s.data.toList)) := by
    unfold caduceusref02_Runes.f runesOf
    rw [← size_len]
    rw [show 0 + s.size + 7 = s.size + 7 by omega] at h
    exact h
  exact at_rounds (fun k => caduceusref02_Runes.mono s k) hk h0
end Go.Proofs.YtoajlmmkkcelgaaDoor.U8
namespace Go.Proofs.YtoajlmmkkcelgaaDoor.U8
open Go.RowKit Go.Proofs.YtoajlmmkkcelgaaDoor.A Go.Proofs.YtoajlmmkkcelgaaDoorW.PrintWords Go.Proofs.YtoajlmmkkcelgaaDoorW.PrintLast Go.Lib
set_option linter.unusedVariables false
set_option linter.unusedSimpArgs false
/-- Bytes, each as two digits. -/
def hexL : List UInt8 → List Int
  | [] => []
  | b :: l => hexd ((b.toNat : Int) / 16) :: hexd ((b.toNat : Int) % 16) :: hexL l
theorem and15 (b : Nat) (h : b < 256) : Go.bits .and .u8 (b : Int) 15 = ((b % 16 : Nat) : Int) := by
  have all : ∀ n : Fin 256, Go.bits .and .u8 (n.val : Int) 15 = ((n.val % 16 : Nat) : Int) := by decide +kernel
  exact all ⟨b, h⟩
theorem hexdig (d : Nat) (h : d < 16) : bt (⟨#[48, 49, 50, 51, 52, 53, 54, 55, 56, 57, 97, 98, 99, 100, 101, 102]⟩ : ByteArray) (d : Int) = hexd (d : Int) := by
  have all : ∀ n : Fin 16, bt (⟨#[48, 49, 50, 51, 52, 53, 54, 55, 56, 57, 97, 98, 99, 100, 101, 102]⟩ : ByteArray) (n.val : Int) = hexd (n.val : Int) := by decide +kernel
  exact all ⟨d, h⟩
theorem drop_byt (s : ByteArray) (i : Nat) (h : i < s.size) : ∃ b : UInt8, s.data.toList.drop i = b :: s.data.toList.drop (i + 1) ∧ byt s.data.toList i = b.toNat := drop_at _ i (by rw [← size_len]; exact h)
theorem hexed_l0 (s : ByteArray) (hs : s.size < 1000000) (k : Nat) : ∀ (m i : Nat) (xs : List Int), i ≤ s.size → s.size - i ≤ m → xs.length ≤ 2 + 2 * i → value_hexed.l0 (k + m + 1) s xs (s.size : Int) (i : Int) = some (strOfNums (xs ++ hexL (s.data.toList.drop i) ++ [39]))
  | 0, i, xs, h1, h2, h3 => by
    have e : s.data.toList.drop i = [] := List.drop_of_length_le (by rw [← size_len]; omega)
    rw [show k + 0 + 1 = k + 1 by omega, value_hexed.l0, if_neg (by omega), if_pos (by omega), e, hexL, List.append_nil]
  | m + 1, i, xs, h1, h2, h3 => by
    rw [show k + (m + 1) + 1 = k + m + 1 + 1 by omega, value_hexed.l0]
    by_cases hi : i = s.size
    · have e : s.data.toList.drop i = [] := List.drop_of_length_le (by rw [← size_len]; omega)
      rw [if_neg (by omega), if_pos (by omega), e, hexL, List.append_nil]
    · obtain ⟨b, e, hb⟩ := drop_byt s i (by omega)
      have g := byt_lt s.data.toList i
      rw [if_pos (by omega), if_pos (by omega), if_pos (by omega), btq s i, and15 _ g, show ((byt s.data.toList i : Nat) : Int) / 16 = ((byt s.data.toList i / 16 : Nat) : Int) by omega, if_pos (by omega), if_pos (by omega), if_pos (by omega), if_pos (by omega), Option.bind_some, hexdig _ (by omega), hexdig _ (by omega)]
      rw [if_pos (by show xs.length + 2 < _; omega), wa1 i (by omega), hexed_l0 s hs k m (i + 1) _ (by omega) (by omega) (by rw [List.length_append]; show xs.length + 2 ≤ _; omega)]
      rw [e, hexL, hb, show (((b.toNat / 16 : Nat)) : Int) = (b.toNat : Int) / 16 by omega, show (((b.toNat % 16 : Nat)) : Int) = (b.toNat : Int) % 16 by omega]
      simp only [List.append_assoc, List.cons_append, List.nil_append]
theorem hexed_q (s : ByteArray) (hs : s.size < 1000000) (k : Nat) (hk : s.size + 1 ≤ k) : value_hexed.f k s = some (strOfNums ([120, 39] ++ hexL s.data.toList ++ [39])) := by
  have h := hexed_l0 s hs 0 s.size 0 [120, 39] (by omega) (by omega) (by simp)
  rw [show 0 + s.size + 1 = s.size + 1 by omega, List.drop_zero] at h
  have h0 : value_hexed.f (s.size + 1) s = some (strOfNums ([120, 39] ++ hexL s.data.toList ++ [39])) := by
    unfold value_hexed.f
    exact h
  exact at_rounds (fun k => value_hexed.mono s k) hk h0
/-- Runes, as they stand within a literal. -/
def escL : List Nat → List UInt8
  | [] => []
  | c :: cs => (escB (c : Int)).data.toList ++ escL cs
theorem quoted_runes (s : ByteArray) : ∀ (m i : Nat), i ≤ s.size → s.size - i ≤ m → validF m (s.data.toList.drop i) = true → quotedFrom s m i = escL (runesF m (s.data.toList.drop i))
  | 0, i, h1, h2, hv => by
    rw [quotedFrom]; rfl
  | m + 1, i, h1, h2, hv => by
    have hl : (s.data.toList.drop i).length = s.size - i := by rw [List.length_drop, ← size_len]
    rw [quotedFrom, runesF]
    by_cases hi : i = s.size
    · have e : s.data.toList.drop i = [] := List.drop_of_length_le (by rw [← size_len]; omega)
      rw [if_neg (by omega), e]; rfl
    · have hne : ¬ ((s.data.toList.drop i).isEmpty = true) := by
        intro h; rw [List.isEmpty_iff] at h; rw [h] at hl; simp at hl; omega
      have hw := dec_width (s.data.toList.drop i)
      rw [validF, if_neg hne] at hv
      by_cases hz : (dec (s.data.toList.drop i)).2 = 0
      · rw [if_pos hz] at hv; cases hv
      · rw [if_neg hz, List.drop_drop] at hv
        rw [if_pos (by omega), if_neg hne, if_neg hz, decode_dec s i (by omega) hz, escL, quoted_runes s m _ (by omega) (by omega) hv, List.drop_drop]
theorem quoted_q (s : ByteArray) (hs : s.size < 1000000) (hv : validD s.data.toList = true) : value_quoted.f s = some ⟨(34 :: (escL (runesOf s.data.toList) ++ [34])).toArray⟩ := by
  unfold value_quoted.f
  have hl : s.data.toList.length = s.size := (size_len s).symm
  rw [validD_validF, hl] at hv
  rw [if_pos (by omega), quoted_runes s s.size 0 (by omega) (by omega) (by rw [List.drop_zero]; exact hv), List.drop_zero]
  unfold runesOf
  rw [hl]
/-- A value that may be, as a literal. -/
def showL (a0 a1 : Int) (a2 : ByteArray) : List UInt8 :=
  if a0 = 1 then itoa a1 else if a0 = 2 then 34 :: (escL (runesOf a2.data.toList) ++ [34])
  else if a0 = 3 then (if a1 = 1 then [116, 114, 117, 101] else [102, 97, 108, 115, 101])
  else Go.Lib.bytesOf ([120, 39] ++ hexL a2.data.toList ++ [39])
end Go.Proofs.YtoajlmmkkcelgaaDoor.U8
namespace Go.Proofs.YtoajlmmkkcelgaaDoor.U8
open Go.RowKit Go.Proofs.YtoajlmmkkcelgaaDoor.A Go.Proofs.YtoajlmmkkcelgaaDoorW.PrintWords Go.Proofs.YtoajlmmkkcelgaaDoorW.PrintLast Go.Lib
set_option linter.unusedVariables false
set_option linter.unusedSimpArgs false
/-- A rune that may be. -/
def okC (c : Nat) : Prop := c < 55296 ∨ (57343 < c ∧ c ≤ 1114111)
theorem u8n (n : Nat) (h : n < 256) : (n.toUInt8).toNat = n := by
  show (UInt8.ofNat n).toNat = n
  rw [UInt8.toNat_ofNat']; omega
theorem byt0 (b : UInt8) (l : List UInt8) : byt (b :: l) 0 = b.toNat := rfl
theorem byt1 (a b : UInt8) (l : List UInt8) : byt (a :: b :: l) 1 = b.toNat := rfl
theorem byt2 (a b c : UInt8) (l : List UInt8) : byt (a :: b :: c :: l) 2 = c.toNat := rfl
theorem byt3 (a b c d : UInt8) (l : List UInt8) : byt (a :: b :: c :: d :: l) 3 = d.toNat := rfl
theorem dec_encode (c : Nat) (h : okC c) (l : List UInt8) : dec (encodeRune (c : Int) ++ l) = (c, (encodeRune (c : Int)).length) := by
  unfold okC at h
  unfold encodeRune
  by_cases c1 : c < 128
  · rw [encodeRuneZ_one (by omega) (by omega)]
    simp only [List.map_cons, List.map_nil, List.cons_append, List.nil_append, Int.toNat_natCast]
    unfold dec decR
    rw [byt0, u8n c (by omega), if_neg (by simp), if_pos c1]
    rfl
  by_cases c2 : c < 2048
  · rw [encodeRuneZ_two (by omega) (by omega)]
    simp only [List.map_cons, List.map_nil, List.cons_append, List.nil_append]
    rw [show (192 + (c : Int) / 64).toNat = 192 + c / 64 by omega, show (128 + (c : Int) % 64).toNat = 128 + c % 64 by omega]
    unfold dec decR tl
    rw [byt0, byt1, u8n _ (by omega), u8n _ (by omega), if_neg (by simp), if_neg (by omega), if_pos ⟨by omega, by omega, by simp, by omega, by omega⟩]
    exact Prod.ext (by show 64 * (192 + c / 64 - 192) + (128 + c % 64 - 128) = c; omega) rfl
  by_cases c3 : c < 65536
  · rw [encodeRuneZ_three (by omega)]
    simp only [List.map_cons, List.map_nil, List.cons_append, List.nil_append]
    rw [show (224 + (c : Int) / 4096).toNat = 224 + c / 4096 by omega, show (128 + (c : Int) / 64 % 64).toNat = 128 + c / 64 % 64 by omega, show (128 + (c : Int) % 64).toNat = 128 + c % 64 by omega]
    have e : 4096 * (224 + c / 4096 - 224) + 64 * (128 + c / 64 % 64 - 128) + (128 + c % 64 - 128) = c := by omega
    unfold dec decR tl
    rw [byt0, byt1, byt2, u8n _ (by omega), u8n _ (by omega), u8n _ (by omega), if_neg (by simp), if_neg (by omega), if_neg (by omega), if_pos ⟨by omega, by omega, ⟨by simp, by omega, by omega⟩, ⟨by simp, by omega, by omega⟩, by omega, by omega⟩]
    exact Prod.ext e rfl
  · rw [encodeRuneZ_four (by omega) (by omega)]
    simp only [List.map_cons, List.map_nil, List.cons_append, List.nil_append]
    rw [show (240 + (c : Int) / 262144).toNat = 240 + c / 262144 by omega, show (128 + (c : Int) / 4096 % 64).toNat = 128 + c / 4096 % 64 by omega, show (128 + (c : Int) / 64 % 64).toNat = 128 + c / 64 % 64 by omega, show (128 + (c : Int) % 64).toNat = 128 + c % 64 by omega]
    have e : 262144 * (240 + c / 262144 - 240) + 4096 * (128 + c / 4096 % 64 - 128) + 64 * (128 + c / 64 % 64 - 128) + (128 + c % 64 - 128) = c := by omega
    unfold dec decR tl
    rw [byt0, byt1, byt2, byt3, u8n _ (by omega), u8n _ (by omega), u8n _ (by omega), u8n _ (by omega), if_neg (by simp), if_neg (by omega), if_neg (by omega), if_neg (by omega), if_pos ⟨by omega, by omega, ⟨by simp, by omega, by omega⟩, ⟨by simp, by omega, by omega⟩, ⟨by simp, by omega, by omega⟩, by omega, by omega⟩]
    exact Prod.ext e rfl
def encL : List Nat → List UInt8
  | [] => []
  | c :: cs => encodeRune (c : Int) ++ encL cs
theorem enc_pos (c : Nat) : 1 ≤ (encodeRune (c : Int)).length := by
  unfold encodeRune
  rw [List.length_map]
  exact (encodeRuneZ_length (c : Int)).1
theorem runes_enc : ∀ (cs : List Nat) (m : Nat), (∀ c ∈ cs, okC c) → (encL cs).length ≤ m → runesF m (encL cs) = cs ∧ validF m (encL cs) = true
  | [], m, h, hm => by cases m <;> exact ⟨rfl, rfl⟩
  | c :: cs, m, h, hm => by
    have hp := enc_pos c
    rw [encL, List.length_append] at hm
    obtain ⟨m, rfl⟩ : ∃ q, m = q + 1 := ⟨m - 1, by omega⟩
    have hd := dec_encode c (h c (List.mem_cons_self ..)) (encL cs)
    have hne : ¬ ((encL (c :: cs)).isEmpty = true) := by
      intro e
      rw [List.isEmpty_iff] at e
      have := congrArg List.length e
      rw [encL, List.length_append, List.length_nil] at this
      omega
    obtain ⟨i1, i2⟩ := runes_enc cs m (fun x hx => h x (List.mem_cons_of_mem _ hx)) (by omega)
    rw [runesF, validF, if_neg hne, if_neg hne, encL, hd]
    dsimp only
    rw [if_neg (by omega), if_neg (by omega), List.drop_left, i1, i2]
    exact ⟨rfl, rfl⟩
theorem enc_runes : ∀ (m : Nat) (l : List UInt8), l.length ≤ m → validF m l = true → encL (runesF m l) = l ∧ ∀ c ∈ runesF m l, okC c
  | 0, l, hl, hv => by
    have : l = [] := List.eq_nil_of_length_eq_zero (by omega)
    subst this
    exact ⟨rfl, fun c hc => by simp [runesF] at hc⟩
  | m + 1, l, hl, hv => by
    by_cases he : l.isEmpty = true
    · rw [runesF, if_pos he]
      rw [List.isEmpty_iff] at he
      subst he
      exact ⟨rfl, fun c hc => by simp at hc⟩
    · rw [validF, if_neg he] at hv
      by_cases hz : (dec l).2 = 0
      · rw [if_pos hz] at hv; cases hv
      · rw [if_neg hz] at hv
        obtain ⟨_, ho, hen, _⟩ := dec_enc l hz
        obtain ⟨i1, i2⟩ := enc_runes m (l.drop (dec l).2) (by rw [List.length_drop]; omega) hv
        rw [runesF, if_neg he, if_neg hz, encL, i1, hen, List.take_append_drop]
        refine ⟨rfl, fun c hc => ?_⟩
        rcases List.mem_cons.1 hc with rfl | hc
        · exact ho
        · exact i2 c hc
theorem ext_drop {s : ByteArray} {i : Nat} {a b : List UInt8} (h : s.data.toList.drop i = a ++ b) (hi : i ≤ s.size) : s.data.toList.drop (i + a.length) = b ∧ i + a.length ≤ s.size := by
  have hl := congrArg List.length h
  rw [List.length_drop, ← size_len, List.length_append] at hl
  refine ⟨?_, by omega⟩
  rw [← List.drop_drop, h, List.drop_left]
theorem byt_of_drop {s : ByteArray} {i : Nat} {l : List UInt8} (h : s.data.toList.drop i = l) : byt s.data.toList i = byt l 0 := by
  rw [← h, byt_drop]; rfl
theorem escB_pl (c : Nat) (h : okC c) (hn : ¬ isCtl (c : Int) = true) : (escB (c : Int)).data.toList = encodeRune (c : Int) ∧ 32 ≤ c ∧ c ≠ 127 ∧ c ≠ 34 ∧ c ≠ 92 := by
  unfold isCtl at hn
  simp only [Bool.or_eq_true, decide_eq_true_eq, beq_iff_eq] at hn
  refine ⟨?_, by omega, by omega, by omega, by omega⟩
  have eb : escB (c : Int) = Utf8.encode (c : Int) := by
    unfold escB
    rw [if_neg (by omega), if_neg (by omega), if_neg (by omega), if_neg (by omega), if_neg (by omega)]
  rw [eb, enc_rune c h]
theorem enc_byt0 (c : Nat) (h : okC c) (l : List UInt8) (k : Nat) (hk : k < 128) (e : byt (encodeRune (c : Int) ++ l) 0 = k) : c = k := by
  have hd := dec_encode c h l
  unfold dec decR at hd
  have hne : ¬ (encodeRune (c : Int) ++ l).length = 0 := by have := enc_pos c; rw [List.length_append]; omega
  rw [if_neg hne, e, if_pos hk] at hd
  exact (congrArg Prod.fst hd).symm
/-- What is written within a text is read. -/
theorem txt_fwd (s : ByteArray) (hs : s.size < 1000000) (r : List UInt8) : ∀ (cs : List Nat) (m i : Nat) (acc : List UInt8), (∀ c ∈ cs, okC c) → i ≤ s.size → s.size - i < m → s.data.toList.drop i = escL cs ++ 34 :: r → acc.length + (encL cs).length ≤ 200 →
    ∃ j, s.data.toList.drop j = r ∧ j ≤ s.size ∧ txtGo s m i acc = (2, 0, ⟨(acc ++ encL cs).toArray⟩, s.extract j s.size, 0)
  | [], m, i, acc, hc, h1, h2, h3, h4 => by
    obtain ⟨m, rfl⟩ : ∃ q, m = q + 1 := ⟨m - 1, by omega⟩
    have hb : byt s.data.toList i = 34 := by rw [byt_of_drop h3]; rfl
    obtain ⟨e1, e2⟩ := ext_drop (a := [34]) (b := r) (by rw [h3]; rfl) h1
    have hlt : ¬ s.size ≤ i := by simp at e2; omega
    refine ⟨i + 1, e1, e2, ?_⟩
    rw [txtGo, if_neg hlt, if_pos hb, if_neg (by omega)]
    simp [encL]
  | c :: cs, m, i, acc, hc, h1, h2, h3, h4 => by
    obtain ⟨m, rfl⟩ : ∃ q, m = q + 1 := ⟨m - 1, by omega⟩
    rw [escL, List.append_assoc] at h3
    have ho := hc c (List.mem_cons_self ..)
    obtain ⟨e1, e2⟩ := ext_drop h3 h1
    rw [encL, List.length_append] at h4
    by_cases hctl : isCtl (c : Int) = true
    · have hr := isCtl_lt _ hctl
      have hpos := escB_pos (c : Int) (by omega) (by omega)
      have hz : 0 < (escB (c : Int)).data.toList.length := by rw [← size_len]; exact hpos
      have hb : byt s.data.toList i = 92 := by
        rw [byt_of_drop h3, ← isCtl_byte0 _ hctl]
        match hm : (escB (c : Int)).data.toList with
        | [] => rw [hm] at hz; simp at hz
        | b :: t => rfl
      have hp : preB (s.extract i s.size) (escB (c : Int)) = true := by
        rw [pre_iff, extract_toList, h3, size_len (escB (c : Int)), List.take_left]
        refine ⟨?_, rfl⟩
        rw [ByteArray.size_extract]; omega
      have hct := ctl_of (s.extract i s.size) (c : Int) hctl hp
      rw [Int.toNat_natCast] at hct
      obtain ⟨j, j1, j2, j3⟩ := txt_fwd s hs r cs m (i + (escB (c : Int)).size) (acc ++ encodeRune (c : Int)) (fun x hx => hc x (List.mem_cons_of_mem _ hx)) (by rw [size_len]; exact e2) (by omega) (by rw [size_len]; exact e1) (by rw [List.length_append]; omega)
      refine ⟨j, j1, j2, ?_⟩
      rw [txtGo, if_neg (by rw [← size_len] at e2; omega), if_neg (by omega), if_pos hb, hct]
      dsimp only
      rw [j3, List.append_assoc]
      rfl
    · obtain ⟨ee, g1, g2, g3, g4⟩ := escB_pl c ho hctl
      rw [ee] at h3 e1 e2
      have hd : dec (s.data.toList.drop i) = (c, (encodeRune (c : Int)).length) := by rw [h3]; exact dec_encode c ho _
      have hp := enc_pos c
      have n34 : byt s.data.toList i ≠ 34 := fun e => g3 (enc_byt0 c ho _ 34 (by omega) (by rw [← h3, byt_drop]; exact e))
      have n92 : byt s.data.toList i ≠ 92 := fun e => g4 (enc_byt0 c ho _ 92 (by omega) (by rw [← h3, byt_drop]; exact e))
      obtain ⟨j, j1, j2, j3⟩ := txt_fwd s hs r cs m (i + (encodeRune (c : Int)).length) (acc ++ encodeRune (c : Int)) (fun x hx => hc x (List.mem_cons_of_mem _ hx)) e2 (by omega) e1 (by rw [List.length_append]; omega)
      refine ⟨j, j1, j2, ?_⟩
      rw [txtGo, if_neg (by omega), if_neg n34, if_neg n92, hd]
      dsimp only
      rw [if_neg (by omega), j3, List.append_assoc]
      rfl
/-- What is read of a text is what was written so. -/
theorem txt_back (s : ByteArray) (hs : s.size < 1000000) : ∀ (m i : Nat) (acc : List UInt8) (K N : Int) (S rest : ByteArray), i ≤ s.size → txtGo s m i acc = (K, N, S, rest, 0) →
    ∃ cs, (∀ c ∈ cs, okC c) ∧ K = 2 ∧ N = 0 ∧ S.data.toList = acc ++ encL cs ∧ S.size ≤ 200 ∧ s.data.toList.drop i = escL cs ++ 34 :: rest.data.toList
  | 0, i, acc, K, N, S, rest, h1, h => by
    rw [txtGo, errR] at h
    simp at h
  | m + 1, i, acc, K, N, S, rest, h1, h => by
    have hl : (s.data.toList.drop i).length = s.size - i := by rw [List.length_drop, ← size_len]
    rw [txtGo] at h
    by_cases hi : s.size ≤ i
    · rw [if_pos hi, errR] at h; simp at h
    rw [if_neg hi] at h
    by_cases h34 : byt s.data.toList i = 34
    · rw [if_pos h34] at h
      by_cases h200 : acc.length > 200
      · rw [if_pos h200, errR] at h; simp at h
      · rw [if_neg h200] at h
        simp only [Prod.mk.injEq] at h
        obtain ⟨rfl, rfl, rfl, rfl, _⟩ := h
        refine ⟨[], fun c hc => by simp at hc, rfl, rfl, by simp [encL], by rw [mk_size]; omega, ?_⟩
        obtain ⟨b, e, hb⟩ := drop_byt s i (by omega)
        rw [e, extract_toList]
        have : b = 34 := UInt8.toNat_inj.1 (by rw [← hb, h34]; rfl)
        rw [this]; rfl
    rw [if_neg h34] at h
    by_cases h92 : byt s.data.toList i = 92
    · rw [if_pos h92] at h
      cases hc : ctl (s.extract i s.size) with
      | none => rw [hc] at h; simp [errR] at h
      | some c =>
        rw [hc] at h
        dsimp only at h
        obtain ⟨c1, c2, c3⟩ := ctl_lt _ _ hc
        have hz := ctl_size _ _ hc
        have hsz : (s.extract i s.size).size = s.size - i := by rw [ByteArray.size_extract]; omega
        obtain ⟨cs, k1, k2, k3, k4, k5, k6⟩ := txt_back s hs m _ _ K N S rest (by omega) h
        refine ⟨c :: cs, ?_, k2, k3, by rw [k4, encL, List.append_assoc], k5, ?_⟩
        · intro x hx
          rcases List.mem_cons.1 hx with rfl | hx
          · unfold okC; omega
          · exact k1 x hx
        · have hp := ((pre_iff _ _).1 c3).2
          rw [extract_toList] at hp
          rw [escL, List.append_assoc, ← k6, ← hp, ← List.drop_drop, List.take_append_drop]
    · rw [if_neg h92] at h
      by_cases hd : (dec (s.data.toList.drop i)).2 = 0 ∨ (dec (s.data.toList.drop i)).1 < 32 ∨ (dec (s.data.toList.drop i)).1 = 127
      · rw [if_pos hd, errR] at h; simp at h
      · rw [if_neg hd] at h
        have h0 : (dec (s.data.toList.drop i)).2 ≠ 0 := fun e => hd (.inl e)
        obtain ⟨_, ho, hen, _⟩ := dec_enc _ h0
        have hw := dec_width (s.data.toList.drop i)
        obtain ⟨cs, k1, k2, k3, k4, k5, k6⟩ := txt_back s hs m _ _ K N S rest (by omega) h
        have b0 : byt (s.data.toList.drop i) 0 = byt s.data.toList i := by rw [byt_drop]; rfl
        have hnc : ¬ isCtl ((dec (s.data.toList.drop i)).1 : Int) = true := by
          intro hcc
          have hr := isCtl_lt _ hcc
          have e0 := dec_byte0 _ h0 (by omega)
          unfold isCtl at hcc
          simp only [Bool.or_eq_true, decide_eq_true_eq, beq_iff_eq] at hcc
          omega
        obtain ⟨ee, _⟩ := escB_pl _ ho hnc
        refine ⟨(dec (s.data.toList.drop i)).1 :: cs, ?_, k2, k3, by rw [k4, encL, List.append_assoc], k5, ?_⟩
        · intro x hx
          rcases List.mem_cons.1 hx with rfl | hx
          · exact ho
          · exact k1 x hx
        · rw [escL, List.append_assoc, ← k6, ee, hen, ← List.drop_drop, List.take_append_drop]
end Go.Proofs.YtoajlmmkkcelgaaDoor.U8
namespace Go.Proofs.YtoajlmmkkcelgaaDoor.U8
open Go.RowKit Go.Proofs.YtoajlmmkkcelgaaDoor.A Go.Proofs.YtoajlmmkkcelgaaDoorW.PrintWords Go.Proofs.YtoajlmmkkcelgaaDoorW.PrintLast Go.Lib
set_option linter.unusedVariables false
set_option linter.unusedSimpArgs false
/-- A hexadecimal digit's byte. -/
def hdB (d : Int) : UInt8 := UInt8.ofNat (hexd d).toNat
/-- Bytes, each as two digits' bytes. -/
def hexB : List UInt8 → List UInt8
  | [] => []
  | b :: l => hdB ((b.toNat : Int) / 16) :: hdB ((b.toNat : Int) % 16) :: hexB l
theorem hexB_L : ∀ l, Go.Lib.bytesOf (hexL l) = hexB l
  | [] => rfl
  | b :: l => by
    have := hexB_L l
    unfold Go.Lib.bytesOf at this ⊢
    rw [hexL, hexB, List.map_cons, List.map_cons, this]; rfl
theorem hex_fin : ∀ n : Fin 256, hexV (hdB ((n.val : Int) / 16)).toNat = (n.val : Int) / 16 ∧ hexV (hdB ((n.val : Int) % 16)).toNat = (n.val : Int) % 16 ∧ (hdB ((n.val : Int) / 16)).toNat ≠ 39 := by decide +kernel
theorem hex_inv : ∀ n : Fin 256, 0 ≤ hexV n.val → hdB (hexV n.val) = UInt8.ofNat n.val := by decide +kernel
theorem hex_b (b : UInt8) : hexV (hdB ((b.toNat : Int) / 16)).toNat = (b.toNat : Int) / 16 ∧ hexV (hdB ((b.toNat : Int) % 16)).toNat = (b.toNat : Int) % 16 ∧ (hdB ((b.toNat : Int) / 16)).toNat ≠ 39 := hex_fin ⟨b.toNat, UInt8.toNat_lt b⟩
theorem hex_i (b : UInt8) (h : 0 ≤ hexV b.toNat) : hdB (hexV b.toNat) = b := by
  have := hex_inv ⟨b.toNat, UInt8.toNat_lt b⟩ h
  rw [this, UInt8.ofNat_toNat]
/-- Bytes as numbers. -/
def nums (l : List UInt8) : List Int := l.map fun b => (b.toNat : Int)
theorem nums_str (l : List UInt8) : (strOfNums (nums l)).data.toList = l := by
  show ((nums l).map fun n => UInt8.ofNat n.toNat) = l
  unfold nums
  rw [List.map_map]
  conv => rhs; rw [← List.map_id l]
  refine List.map_congr_left fun b hb => ?_
  show UInt8.ofNat ((b.toNat : Int)).toNat = b
  rw [Int.toNat_natCast, UInt8.ofNat_toNat]
theorem hex_fwd (s : ByteArray) (r : List UInt8) : ∀ (l : List UInt8) (m i : Nat) (xs : List Int), i ≤ s.size → s.size - i < m → s.data.toList.drop i = hexB l ++ 39 :: r → xs.length + l.length ≤ 200 →
    ∃ j, s.data.toList.drop j = r ∧ j ≤ s.size ∧ hexGo s m i xs = (4, 0, strOfNums (xs ++ nums l), s.extract j s.size, 0)
  | [], m, i, xs, h1, h2, h3, h4 => by
    obtain ⟨m, rfl⟩ : ∃ q, m = q + 1 := ⟨m - 1, by omega⟩
    obtain ⟨e1, e2⟩ := ext_drop (a := [39]) (b := r) (by rw [h3]; rfl) h1
    have hb : byt s.data.toList i = 39 := by rw [byt_of_drop h3]; rfl
    have e3 : i + 1 ≤ s.size := e2
    refine ⟨i + 1, e1, e2, ?_⟩
    rw [hexGo, if_neg (by omega), if_pos hb, if_neg (by simp at h4; omega)]
    simp [nums]
  | b :: l, m, i, xs, h1, h2, h3, h4 => by
    obtain ⟨m, rfl⟩ : ∃ q, m = q + 1 := ⟨m - 1, by omega⟩
    obtain ⟨e1, e2⟩ := ext_drop (a := [hdB ((b.toNat : Int) / 16), hdB ((b.toNat : Int) % 16)]) (b := hexB l ++ 39 :: r) (by rw [h3]; rfl) h1
    have e3 : i + 2 ≤ s.size := e2
    have b0 : byt s.data.toList i = (hdB ((b.toNat : Int) / 16)).toNat := by rw [byt_of_drop h3]; rfl
    have b1 : byt s.data.toList (i + 1) = (hdB ((b.toNat : Int) % 16)).toNat := by
      rw [← byt_drop, h3]; rfl
    obtain ⟨v0, v1, v2⟩ := hex_b b
    have hlt := UInt8.toNat_lt b
    have hl : (b :: l).length = l.length + 1 := rfl
    obtain ⟨j, j1, j2, j3⟩ := hex_fwd s r l m (i + 2) (xs ++ [(b.toNat : Int)]) e2 (by omega) e1 (by rw [List.length_append]; show xs.length + 1 + l.length ≤ 200; omega)
    refine ⟨j, j1, j2, ?_⟩
    rw [hexGo, if_neg (by omega), b0, if_neg v2, b1, v0, v1, if_neg (by omega), show (16 * ((b.toNat : Int) / 16) + (b.toNat : Int) % 16) % 256 = (b.toNat : Int) by omega, j3]
    rw [List.append_assoc]; rfl
theorem hex_back (s : ByteArray) : ∀ (m i : Nat) (xs : List Int) (K N : Int) (S rest : ByteArray), i ≤ s.size → hexGo s m i xs = (K, N, S, rest, 0) →
    ∃ l, K = 4 ∧ N = 0 ∧ S = strOfNums (xs ++ nums l) ∧ xs.length + l.length ≤ 200 ∧ s.data.toList.drop i = hexB l ++ 39 :: rest.data.toList
  | 0, i, xs, K, N, S, rest, h1, h => by rw [hexGo] at h; simp at h
  | m + 1, i, xs, K, N, S, rest, h1, h => by
    rw [hexGo] at h
    by_cases hi : s.size ≤ i
    · rw [if_pos hi] at h; simp at h
    rw [if_neg hi] at h
    obtain ⟨b, e, hb⟩ := drop_byt s i (by omega)
    by_cases h39 : byt s.data.toList i = 39
    · rw [if_pos h39] at h
      by_cases h200 : xs.length > 200
      · rw [if_pos h200] at h; simp at h
      rw [if_neg h200] at h
      simp only [Prod.mk.injEq] at h
      obtain ⟨rfl, rfl, rfl, rfl, _⟩ := h
      refine ⟨[], rfl, rfl, by simp [nums], by simp; omega, ?_⟩
      rw [e, extract_toList]
      have : b = 39 := UInt8.toNat_inj.1 (by rw [← hb, h39]; rfl)
      rw [this]; rfl
    rw [if_neg h39] at h
    by_cases hc : s.size < i + 2 ∨ hexV (byt s.data.toList i) < 0 ∨ hexV (byt s.data.toList (i + 1)) < 0
    · rw [if_pos hc] at h; simp at h
    rw [if_neg hc] at h
    obtain ⟨c, e', hb'⟩ := drop_byt s (i + 1) (by omega)
    obtain ⟨l, k1, k2, k3, k4, k5⟩ := hex_back s m (i + 2) _ K N S rest (by omega) h
    have g0 := hexV_lt (byt s.data.toList i)
    have g1 := hexV_lt (byt s.data.toList (i + 1))
    generalize hd0 : hexV (byt s.data.toList i) = d0 at *
    generalize hd1 : hexV (byt s.data.toList (i + 1)) = d1 at *
    have ex : (16 * d0 + d1) % 256 = 16 * d0 + d1 := by omega
    have et : ((UInt8.ofNat (16 * d0 + d1).toNat).toNat : Int) = 16 * d0 + d1 := by rw [UInt8.toNat_ofNat']; omega
    refine ⟨UInt8.ofNat (16 * d0 + d1).toNat :: l, k1, k2, ?_, ?_, ?_⟩
    · rw [k3, ex, List.append_assoc]
      congr 2
      show [16 * d0 + d1] ++ nums l = _
      unfold nums
      rw [List.map_cons, et]; rfl
    · rw [List.length_append] at k4
      have : ([(16 * d0 + d1) % 256] : List Int).length = 1 := rfl
      rw [List.length_cons]; omega
    · rw [hexB, et, show (16 * d0 + d1) / 16 = d0 by omega, show (16 * d0 + d1) % 16 = d1 by omega, e, e', k5, ← hd0, ← hd1, hb, hb', hex_i b (by rw [← hb, hd0]; omega), hex_i c (by rw [← hb', hd1]; omega)]
      rfl
/-- A value that may be. -/
def okV (a0 a1 : Int) (a2 : ByteArray) : Prop :=
  (a0 = 1 ∧ -9007199254740991 ≤ a1 ∧ a1 ≤ 9007199254740991 ∧ a2.size = 0) ∨ (a0 = 2 ∧ a1 = 0 ∧ a2.size ≤ 200 ∧ validD a2.data.toList = true) ∨ (a0 = 3 ∧ (a1 = 0 ∨ a1 = 1) ∧ a2.size = 0) ∨ (a0 = 4 ∧ a1 = 0 ∧ a2.size ≤ 200)
theorem empty_beq (s : ByteArray) : (s.toList == ([] : List UInt8)) = decide (s.size = 0) := by
  have h := toList_nil s
  by_cases c : s.size = 0
  · rw [h.2 c, decide_eq_true c]; rfl
  · rw [decide_eq_false c]
    exact beq_eq_false_iff_ne.2 fun e => c (h.1 e)
theorem check_ok (a0 a1 : Int) (a2 : ByteArray) (h : okV a0 a1 a2) : value_Check.f a0 a1 a2 = some true := by
  unfold value_Check.f
  rw [empty_beq]
  rcases h with ⟨rfl, h1, h2, h3⟩ | ⟨rfl, rfl, h1, h2⟩ | ⟨rfl, h1, h2⟩ | ⟨rfl, rfl, h1⟩
  · rw [if_pos rfl, if_pos (by omega), if_pos (by omega), decide_eq_true h3]
  · rw [if_neg (by omega), if_pos rfl, if_pos rfl, if_pos (by omega), utf8_ValidString.f, if_pos (by omega), Option.bind_some, h2]
  · rw [if_neg (by omega), if_neg (by omega), if_pos rfl, decide_eq_true h2]
    rcases h1 with rfl | rfl <;> rfl
  · rw [if_neg (by omega), if_neg (by omega), if_neg (by omega), if_pos rfl, if_pos rfl, decide_eq_true (by omega)]
theorem show_q (a0 a1 : Int) (a2 : ByteArray) (h : okV a0 a1 a2) (k : Nat) (hk : 300 ≤ k) : value_Show.f k a0 a1 a2 = some ⟨(showL a0 a1 a2).toArray⟩ := by
  unfold value_Show.f showL
  rw [check_ok _ _ _ h, Option.bind_some, if_pos rfl]
  rcases h with ⟨rfl, h1, h2, h3⟩ | ⟨rfl, rfl, h1, h2⟩ | ⟨rfl, h1, h2⟩ | ⟨rfl, rfl, h1⟩
  · rw [if_pos rfl, if_pos rfl, strconv_Itoa.f, if_pos (by omega), Option.bind_some]
  · rw [if_neg (by omega), if_pos rfl, if_neg (by omega), if_pos rfl, quoted_q a2 (by omega) h2, Option.bind_some]
  · rw [if_neg (by omega), if_neg (by omega), if_pos rfl, if_neg (by omega), if_neg (by omega), if_pos rfl]
    rcases h1 with rfl | rfl <;> rfl
  · rw [if_neg (by omega), if_neg (by omega), if_neg (by omega), if_neg (by omega), if_neg (by omega), if_neg (by omega), hexed_q a2 (by omega) k (by omega), Option.bind_some]
    rfl
end Go.Proofs.YtoajlmmkkcelgaaDoor.U8
namespace Go.Proofs.YtoajlmmkkcelgaaDoor.U8
open Go.RowKit Go.Proofs.YtoajlmmkkcelgaaDoor.A Go.Proofs.YtoajlmmkkcelgaaDoorW.PrintWords Go.Proofs.YtoajlmmkkcelgaaDoorW.PrintLast Go.Lib
set_option linter.unusedVariables false
set_option linter.unusedSimpArgs false
theorem ba_nil (s : ByteArray) (h : s.size = 0) : s = ⟨#[]⟩ := baext (List.eq_nil_of_length_eq_zero (by rw [← size_len]; exact h))
theorem byt_cons (s : ByteArray) (b : UInt8) (l : List UInt8) (h : s.data.toList = b :: l) : byt s.data.toList 0 = b.toNat ∧ s.size ≠ 0 := by
  refine ⟨by rw [h]; rfl, ?_⟩
  rw [size_len, h, List.length_cons]; omega
theorem no_pre (s : ByteArray) (c : Nat) (h : byt s.data.toList 0 = c) (p : ByteArray) (hp : p.size ≠ 0) (hn : c ≠ byt p.data.toList 0) : ¬ preB s p = true := fun e => hn (by rw [← h]; exact pre_byte e hp)
theorem pre_app (s p : ByteArray) (r : List UInt8) (h : s.data.toList = p.data.toList ++ r) : preB s p = true := by
  rw [pre_iff]
  refine ⟨?_, ?_⟩
  · rw [size_len, size_len, h, List.length_append]; omega
  · rw [h, size_len, List.take_left]
theorem valid_runes (a : ByteArray) (hv : validD a.data.toList = true) : encL (runesOf a.data.toList) = a.data.toList ∧ ∀ c ∈ runesOf a.data.toList, okC c := by
  rw [validD_validF] at hv
  exact enc_runes _ _ (Nat.le_refl _) hv
theorem scan_fwd (s : ByteArray) (hs : s.size < 1000000) (a0 a1 : Int) (a2 : ByteArray) (h : okV a0 a1 a2) (r : List UInt8) (hr1 : dg r = 0) (hr2 : goesB r = false) (he : s.data.toList = showL a0 a1 a2 ++ r) :
    ∃ j, s.data.toList.drop j = r ∧ j ≤ s.size ∧ scanX s = (a0, a1, a2, s.extract j s.size, 0) := by
  have hl := congrArg List.length he
  rw [List.length_append, ← size_len] at hl
  rcases h with ⟨rfl, h1, h2, h3⟩ | ⟨rfl, rfl, h1, h2⟩ | ⟨rfl, h1, h2⟩ | ⟨rfl, rfl, h1⟩
  · rw [ba_nil a2 h3]
    have hs0 : showL 1 a1 a2 = itoa a1 := by unfold showL; rw [if_pos rfl]
    rw [hs0] at he hl
    refine ⟨(itoa a1).length, by rw [he, List.drop_left], by omega, ?_⟩
    have hb : byt s.data.toList 0 = 45 ∨ (48 ≤ byt s.data.toList 0 ∧ byt s.data.toList 0 ≤ 57) := by
      rw [he]
      by_cases c : a1 < 0
      · rw [itoa_neg' _ c]; exact .inl rfl
      · rw [itoa_pos' _ c, byt_app0 _ _ (dd_len _)]; exact .inr (dd_first _).2
    have hz : s.size ≠ 0 := by
      have : 1 ≤ (itoa a1).length := by
        by_cases c : a1 < 0
        · rw [itoa_neg' _ c, List.length_cons]; omega
        · rw [itoa_pos' _ c]; exact dd_len _
      omega
    unfold scanX
    rw [if_neg hz, if_neg (by omega), if_neg (no_pre s _ rfl _ (by decide) (by show byt s.data.toList 0 ≠ 120; omega)), if_pos hb]
    exact int_fwd s a1 h1 h2 r hr1 he
  · have hs0 : showL 2 0 a2 = 34 :: (escL (runesOf a2.data.toList) ++ [34]) := by unfold showL; rw [if_neg (by omega), if_pos rfl]
    rw [hs0, List.cons_append] at he
    obtain ⟨b0, hz⟩ := byt_cons s 34 (escL (runesOf a2.data.toList) ++ [34] ++ r) he
    obtain ⟨v1, v2⟩ := valid_runes a2 h2
    have hd : s.data.toList.drop 1 = escL (runesOf a2.data.toList) ++ 34 :: r := by
      rw [he]
      show escL (runesOf a2.data.toList) ++ [34] ++ r = _
      rw [List.append_assoc]; rfl
    obtain ⟨j, j1, j2, j3⟩ := txt_fwd s hs r (runesOf a2.data.toList) (s.size + 1) 1 [] v2 (by omega) (by omega) hd (by rw [v1, ← size_len]; show 0 + a2.size ≤ 200; omega)
    refine ⟨j, j1, j2, ?_⟩
    unfold scanX
    rw [if_neg hz, if_pos (show byt s.data.toList 0 = 34 from b0)]
    show txtGo s (s.size + 1) 1 [] = _
    rw [j3, List.nil_append, v1]
  · rw [ba_nil a2 h2]
    rcases h1 with rfl | rfl
    · have hs0 : showL 3 0 a2 = wFalse.data.toList := by unfold showL; rw [if_neg (by omega), if_neg (by omega), if_pos rfl, if_neg (by omega)]; rfl
      rw [hs0] at he hl
      have hf : wFalse.data.toList.length = 5 := rfl
      obtain ⟨b0, hz⟩ := byt_cons s 102 _ he
      have b1 : byt s.data.toList 0 = 102 := b0
      have hd : s.data.toList.drop 5 = r := by rw [he, ← hf, List.drop_left]
      refine ⟨5, hd, by omega, ?_⟩
      unfold scanX
      rw [if_neg hz, if_neg (by omega), if_neg (no_pre s 102 b1 _ (by decide) (by decide)), if_neg (by omega), boolS, if_neg (fun e => no_pre s 102 b1 wTrue (by decide) (by decide) e.1), if_pos ⟨pre_app s wFalse r he, by rw [hd]; exact hr2⟩]
    · have hs0 : showL 3 1 a2 = wTrue.data.toList := by unfold showL; rw [if_neg (by omega), if_neg (by omega), if_pos rfl, if_pos rfl]; rfl
      rw [hs0] at he hl
      have hf : wTrue.data.toList.length = 4 := rfl
      obtain ⟨b0, hz⟩ := byt_cons s 116 _ he
      have b1 : byt s.data.toList 0 = 116 := b0
      have hd : s.data.toList.drop 4 = r := by rw [he, ← hf, List.drop_left]
      refine ⟨4, hd, by omega, ?_⟩
      unfold scanX
      rw [if_neg hz, if_neg (by omega), if_neg (no_pre s 116 b1 _ (by decide) (by decide)), if_neg (by omega), boolS, if_pos ⟨pre_app s wTrue r he, by rw [hd]; exact hr2⟩]
  · have hs0 : showL 4 0 a2 = 120 :: 39 :: (hexB a2.data.toList ++ [39]) := by
      unfold showL
      rw [if_neg (by omega), if_neg (by omega), if_neg (by omega), ← hexB_L]
      unfold Go.Lib.bytesOf
      rw [List.map_append, List.map_append]; rfl
    rw [hs0] at he hl
    obtain ⟨b0, hz⟩ := byt_cons s 120 _ he
    have b1 : byt s.data.toList 0 = 120 := b0
    simp only [List.length_cons] at hl
    have hd : s.data.toList.drop 2 = hexB a2.data.toList ++ 39 :: r := by
      rw [he]
      show hexB a2.data.toList ++ [39] ++ r = _
      rw [List.append_assoc]; rfl
    obtain ⟨j, j1, j2, j3⟩ := hex_fwd s r a2.data.toList s.size 2 [] (by omega) (by omega) hd (by rw [← size_len]; show 0 + a2.size ≤ 200; omega)
    refine ⟨j, j1, j2, ?_⟩
    unfold scanX
    rw [if_neg hz, if_neg (by omega), if_pos (pre_app s _ _ he), j3, List.nil_append]
    rw [baext (nums_str a2.data.toList)]
theorem scan_back (s : ByteArray) (hs : s.size < 1000000) (K N : Int) (S rest : ByteArray) (h : scanX s = (K, N, S, rest, 0)) : okV K N S ∧ s.data.toList = showL K N S ++ rest.data.toList := by
  unfold scanX at h
  by_cases hz : s.size = 0
  · rw [if_pos hz, errR] at h; simp at h
  rw [if_neg hz] at h
  obtain ⟨b, e, hb⟩ := drop_byt s 0 (by omega)
  rw [List.drop_zero] at e
  by_cases h34 : byt s.data.toList 0 = 34
  · rw [if_pos h34] at h
    obtain ⟨cs, k1, rfl, rfl, k4, k5, k6⟩ := txt_back s hs (s.size + 1) 1 [] K N S rest (by omega) h
    rw [List.nil_append] at k4
    obtain ⟨r1, r2⟩ := runes_enc cs (encL cs).length k1 (Nat.le_refl _)
    have hr : runesOf S.data.toList = cs := by rw [k4]; exact r1
    refine ⟨.inr (.inl ⟨rfl, rfl, k5, by rw [validD_validF, k4]; exact r2⟩), ?_⟩
    unfold showL
    rw [if_neg (by omega), if_pos rfl, hr, e, k6]
    have : b = 34 := UInt8.toNat_inj.1 (by rw [← hb, h34]; rfl)
    rw [this, List.cons_append, List.append_assoc]; rfl
  rw [if_neg h34] at h
  by_cases hx : preB s (⟨#[120, 39]⟩ : ByteArray) = true
  · rw [if_pos hx] at h
    obtain ⟨p1, p2⟩ := (pre_iff _ _).1 hx
    have p1 : 2 ≤ s.size := p1
    obtain ⟨l, rfl, rfl, rfl, k4, k5⟩ := hex_back s s.size 2 [] K N S rest p1 h
    rw [List.nil_append]
    refine ⟨.inr (.inr (.inr ⟨rfl, rfl, ?_⟩)), ?_⟩
    · rw [size_len, nums_str]
      have : ([] : List Int).length = 0 := rfl
      omega
    · unfold showL
      rw [if_neg (by omega), if_neg (by omega), if_neg (by omega), nums_str, ← List.take_append_drop 2 s.data.toList, k5]
      have p3 : s.data.toList.take 2 = [120, 39] := p2
      unfold Go.Lib.bytesOf
      have e2 := hexB_L l
      unfold Go.Lib.bytesOf at e2
      rw [p3, List.map_append, List.map_append, e2, List.append_assoc, List.append_assoc]; rfl
  rw [if_neg hx] at h
  by_cases hd : byt s.data.toList 0 = 45 ∨ (48 ≤ byt s.data.toList 0 ∧ byt s.data.toList 0 ≤ 57)
  · rw [if_pos hd] at h
    obtain ⟨rfl, k2, k3, rfl, k5⟩ := int_back s K N S rest h
    exact ⟨.inl ⟨rfl, k2, k3, rfl⟩, by unfold showL; rw [if_pos rfl]; exact k5⟩
  rw [if_neg hd, boolS] at h
  by_cases c1 : preB s wTrue = true ∧ goesB (s.data.toList.drop 4) = false
  · rw [if_pos c1] at h
    simp only [Prod.mk.injEq] at h
    obtain ⟨rfl, rfl, rfl, rfl, _⟩ := h
    refine ⟨.inr (.inr (.inl ⟨rfl, .inr rfl, rfl⟩)), ?_⟩
    have p2 : s.data.toList.take 4 = [116, 114, 117, 101] := ((pre_iff _ _).1 c1.1).2
    unfold showL
    rw [if_neg (by omega), if_neg (by omega), if_pos rfl, if_pos rfl, extract_toList, ← p2, List.take_append_drop]
  rw [if_neg c1] at h
  by_cases c2 : preB s wFalse = true ∧ goesB (s.data.toList.drop 5) = false
  · rw [if_pos c2] at h
    simp only [Prod.mk.injEq] at h
    obtain ⟨rfl, rfl, rfl, rfl, _⟩ := h
    refine ⟨.inr (.inr (.inl ⟨rfl, .inl rfl, rfl⟩)), ?_⟩
    have p2 : s.data.toList.take 5 = [102, 97, 108, 115, 101] := ((pre_iff _ _).1 c2.1).2
    unfold showL
    rw [if_neg (by omega), if_neg (by omega), if_pos rfl, if_neg (by omega), extract_toList, ← p2, List.take_append_drop]
  rw [if_neg c2] at h
  simp at h
end Go.Proofs.YtoajlmmkkcelgaaDoor.U8
namespace Go.Proofs.YtoajlmmkkcelgaaDoor.U8
open Go.RowKit Go.Proofs.YtoajlmmkkcelgaaDoor.A Go.Proofs.YtoajlmmkkcelgaaDoorW.PrintWords Go.Proofs.YtoajlmmkkcelgaaDoorW.PrintLast Go.Lib
set_option linter.unusedVariables false
set_option linter.unusedSimpArgs false
/-- A rune at the front stays what it is if a blank stands behind the text. -/
theorem dec_app (l X : List UInt8) (h : l ≠ []) : dec (l ++ 32 :: X) = dec l := by
  unfold dec
  have e32 : ((32 : UInt8)).toNat = 32 := rfl
  match l with
  | [] => exact absurd rfl h
  | [a] =>
    show decR (X.length + 1 + 1) a.toNat 32 (byt ([a] ++ 32 :: X) 2) (byt ([a] ++ 32 :: X) 3) = decR 1 a.toNat (byt [a] 1) (byt [a] 2) (byt [a] 3)
    unfold decR tl
    by_cases c : a.toNat < 128
    · rw [if_neg (by omega), if_pos c, if_neg (by omega), if_pos c]
    · rw [if_neg (by omega), if_neg c, if_neg (by omega), if_neg (by omega), if_neg (by omega), if_neg (by omega), if_neg c, if_neg (by omega), if_neg (by omega), if_neg (by omega)]
  | [a, b] =>
    show decR (X.length + 1 + 1 + 1) a.toNat b.toNat 32 (byt ([a, b] ++ 32 :: X) 3) = decR 2 a.toNat b.toNat (byt [a, b] 2) (byt [a, b] 3)
    unfold decR tl
    by_cases c : a.toNat < 128
    · rw [if_neg (by omega), if_pos c, if_neg (by omega), if_pos c]
    by_cases d : 194 ≤ a.toNat ∧ a.toNat < 224 ∧ 1 < 2 ∧ 128 ≤ b.toNat ∧ b.toNat < 192
    · rw [if_neg (by omega), if_neg c, if_pos (by omega), if_neg (by omega), if_neg c, if_pos (by omega)]
    · rw [if_neg (by omega), if_neg c, if_neg (by omega), if_neg (by omega), if_neg (by omega), if_neg (by omega), if_neg c, if_neg (by omega), if_neg (by omega), if_neg (by omega)]
  | [a, b, z] =>
    show decR (X.length + 1 + 1 + 1 + 1) a.toNat b.toNat z.toNat 32 = decR 3 a.toNat b.toNat z.toNat (byt [a, b, z] 3)
    unfold decR tl
    by_cases c : a.toNat < 128
    · rw [if_neg (by omega), if_pos c, if_neg (by omega), if_pos c]
    by_cases d : 194 ≤ a.toNat ∧ a.toNat < 224 ∧ 1 < 3 ∧ 128 ≤ b.toNat ∧ b.toNat < 192
    · rw [if_neg (by omega), if_neg c, if_pos (by omega), if_neg (by omega), if_neg c, if_pos (by omega)]
    by_cases e : 224 ≤ a.toNat ∧ a.toNat < 240 ∧ (1 < 3 ∧ 128 ≤ b.toNat ∧ b.toNat < 192) ∧ (2 < 3 ∧ 128 ≤ z.toNat ∧ z.toNat < 192) ∧ 2048 ≤ 4096 * (a.toNat - 224) + 64 * (b.toNat - 128) + (z.toNat - 128) ∧ (4096 * (a.toNat - 224) + 64 * (b.toNat - 128) + (z.toNat - 128) < 55296 ∨ 57343 < 4096 * (a.toNat - 224) + 64 * (b.toNat - 128) + (z.toNat - 128))
    · rw [if_neg (by omega), if_neg c, if_neg (by omega), if_pos (by omega), if_neg (by omega), if_neg c, if_neg (by omega), if_pos (by omega)]
    · rw [if_neg (by omega), if_neg c, if_neg (by omega), if_neg (by omega), if_neg (by omega), if_neg (by omega), if_neg c, if_neg (by omega), if_neg (by omega), if_neg (by omega)]
  | a :: b :: z :: y :: r =>
    show decR ((r ++ 32 :: X).length + 1 + 1 + 1 + 1) a.toNat b.toNat z.toNat y.toNat = decR (r.length + 1 + 1 + 1 + 1) a.toNat b.toNat z.toNat y.toNat
    have t : ∀ n i b : Nat, i ≤ 3 → (tl (n + 1 + 1 + 1 + 1) i b ↔ (128 ≤ b ∧ b < 192)) := fun n i b hi => by unfold tl; omega
    unfold decR
    rw [if_neg (show ¬ (r ++ 32 :: X).length + 1 + 1 + 1 + 1 = 0 by omega), if_neg (show ¬ r.length + 1 + 1 + 1 + 1 = 0 by omega)]
    simp only [t _ 1 _ (by omega), t _ 2 _ (by omega), t _ 3 _ (by omega)]
theorem decL_dec (l : List UInt8) (h : l ≠ []) : decodeL l = if (dec l).2 = 0 then (65533, 1) else dec l := by
  have e := dec_decodeL l h
  have hw := decodeL_width l
  by_cases hb : decodeL l = (65533, 1)
  · rw [if_pos hb] at e
    rw [e, hb]; rfl
  · rw [if_neg hb] at e
    have hl : 0 < l.length := List.length_pos_iff.2 h
    rw [e, if_neg (by omega)]
theorem decL_app (l X : List UInt8) (h : l ≠ []) : decodeL (l ++ 32 :: X) = decodeL l := by
  rw [decL_dec l h, decL_dec _ (by simp), dec_app l X h]
theorem goes_blank (l : List UInt8) : goesB (32 :: l) = false := by
  have e : (32 : UInt8).toNat = 32 := rfl
  have d : dec (32 :: l) = (32, 1) := by
    unfold dec decR
    rw [byt0, e, if_neg (by simp), if_pos (by omega)]
  rw [goesB, d]
  decide
theorem goes_nil : goesB [] = false := by decide
theorem goes_app (l X : List UInt8) : goesB (l ++ 32 :: X) = goesB l := by
  by_cases h : l = []
  · rw [h, List.nil_append, goes_blank, goes_nil]
  · unfold goesB; rw [dec_app l X h]
theorem pre_32 (s t p : ByteArray) (X : List UInt8) (ht : t.data.toList = s.data.toList ++ 32 :: X) (hp : (32 : UInt8) ∉ p.data.toList) : preB t p = preB s p := by
  have hl := congrArg List.length ht
  rw [List.length_append, List.length_cons, ← size_len, ← size_len] at hl
  apply Bool.eq_iff_iff.2
  rw [pre_iff, pre_iff, ht]
  constructor
  · intro ⟨h1, h2⟩
    by_cases c : p.size ≤ s.size
    · exact ⟨c, by rw [← h2, List.take_append_of_le_length (by rw [← size_len]; exact c)]⟩
    · refine absurd ?_ hp
      rw [← h2, List.take_append]
      refine List.mem_append.2 (.inr ?_)
      rw [← size_len]
      obtain ⟨m, hm⟩ : ∃ m, p.size - s.size = m + 1 := ⟨p.size - s.size - 1, by omega⟩
      rw [hm, List.take_succ_cons]
      exact List.mem_cons_self ..
  · intro ⟨h1, h2⟩
    exact ⟨by omega, by rw [← h2, List.take_append_of_le_length (by rw [← size_len]; exact h1)]⟩
theorem drop_32 (s t : ByteArray) (X : List UInt8) (ht : t.data.toList = s.data.toList ++ 32 :: X) (i : Nat) (hi : i ≤ s.size) : t.data.toList.drop i = s.data.toList.drop i ++ 32 :: X := by
  rw [ht, List.drop_append_of_le_length (by rw [← size_len]; exact hi)]
theorem byt_32 (s t : ByteArray) (X : List UInt8) (ht : t.data.toList = s.data.toList ++ 32 :: X) (i : Nat) : (i < s.size → byt t.data.toList i = byt s.data.toList i) ∧ byt t.data.toList s.size = 32 := by
  refine ⟨fun hi => ?_, ?_⟩
  · rw [← byt_take t.data.toList s.size i hi, ht, size_len s, List.take_left]
  · have := drop_32 s t X ht s.size (Nat.le_refl _)
    rw [byt_of_drop this, size_len, List.drop_length]; rfl
/-- Hexadecimal digits that are none stay none. -/
theorem hex_err (s t : ByteArray) (X : List UInt8) (ht : t.data.toList = s.data.toList ++ 32 :: X) : ∀ (m m' i : Nat) (xs : List Int), i ≤ s.size → s.size - i < m → s.size - i + 1 < m' → hexGo s m i xs = (0, 0, ⟨#[]⟩, ⟨#[]⟩, 3) → hexGo t m' i xs = (0, 0, ⟨#[]⟩, ⟨#[]⟩, 3)
  | 0, m', i, xs, h1, h2, h3, h => by omega
  | m + 1, m', i, xs, h1, h2, h3, h => by
    obtain ⟨m', rfl⟩ : ∃ q, m' = q + 1 := ⟨m' - 1, by omega⟩
    have hl := congrArg List.length ht
    rw [List.length_append, List.length_cons, ← size_len, ← size_len] at hl
    have hv32 : hexV 32 < 0 := by decide
    rw [hexGo] at h
    rw [hexGo, if_neg (by omega)]
    by_cases hi : i = s.size
    · subst hi
      rw [(byt_32 s t X ht 0).2, if_neg (by omega), if_pos (.inr (.inl hv32))]
    rw [if_neg (by omega)] at h
    rw [(byt_32 s t X ht i).1 (by omega)]
    by_cases c : byt s.data.toList i = 39
    · rw [if_pos c] at h
      split at h <;> simp at h
    rw [if_neg c] at h
    rw [if_neg c]
    by_cases hi2 : i + 1 = s.size
    · rw [show byt t.data.toList (i + 1) = 32 by rw [hi2]; exact (byt_32 s t X ht 0).2, if_pos (.inr (.inr hv32))]
    · rw [(byt_32 s t X ht (i + 1)).1 (by omega)]
      by_cases d : hexV (byt s.data.toList i) < 0 ∨ hexV (byt s.data.toList (i + 1)) < 0
      · rw [if_pos (.inr d)]
      · rw [if_neg (by omega)] at h
        rw [if_neg (by omega)]
        exact hex_err s t X ht m m' (i + 2) _ (by omega) (by omega) (by omega) h
end Go.Proofs.YtoajlmmkkcelgaaDoor.U8
namespace Go.Proofs.YtoajlmmkkcelgaaDoor.U8
open Go.RowKit Go.Proofs.YtoajlmmkkcelgaaDoor.A Go.Proofs.YtoajlmmkkcelgaaDoorW.PrintWords Go.Proofs.YtoajlmmkkcelgaaDoorW.PrintLast Go.Lib
set_option linter.unusedVariables false
set_option linter.unusedSimpArgs false
def stB (pos : Nat) (c : Int) : Bool := if pos = 0 then (if letB c = true then !(wordB c) else if c = 95 then !(wordB c) else true) else !(wordB c)
theorem lgoes_q (c : Int) (k : Nat) : lex_goes.f (k + 1) c = some (wordB c) := by
  unfold lex_goes.f
  rw [letter_q c k, Option.bind_some]
  exact word_if c
theorem st_q (pos : Nat) (c : Int) (k : Nat) : lex_word.st (k + 1) pos c = some (stB pos c) := by
  unfold lex_word.st stB
  by_cases h : pos = 0
  · rw [if_pos h, if_pos h, letter_q c k, Option.bind_some]
    by_cases h1 : letB c = true
    · rw [if_pos h1, if_pos h1, lgoes_q c k, Option.bind_some]
    rw [if_neg h1, if_neg h1]
    by_cases h2 : c = 95
    · rw [if_pos h2, if_pos h2, lgoes_q c k, Option.bind_some]
    · rw [if_neg h2, if_neg h2]
  · rw [if_neg h, if_neg h, lgoes_q c k, Option.bind_some]
/-- Where the word ends. -/
def wordF (s : ByteArray) : Nat → Nat → Nat
  | 0, _ => s.size
  | f + 1, pos => if pos < s.size then (if stB pos ((Utf8.decode s pos).1 : Int) = true then pos else wordF s f (pos + (Utf8.decode s pos).2)) else s.size
theorem dec_step (s : ByteArray) (i : Nat) (hi : i < s.size) : 1 ≤ (Utf8.decode s i).2 ∧ i + (Utf8.decode s i).2 ≤ s.size := by
  have hl : (s.data.toList.drop i).length = s.size - i := by rw [List.length_drop, ← size_len]
  have hne : s.data.toList.drop i ≠ [] := fun e => by rw [e] at hl; simp at hl; omega
  rw [decode_drop, decL_dec _ hne]
  have hw := dec_width (s.data.toList.drop i)
  by_cases c : (dec (s.data.toList.drop i)).2 = 0
  · rw [if_pos c]; exact ⟨Nat.le_refl _, by show i + 1 ≤ _; omega⟩
  · rw [if_neg c]; omega
theorem word_go (s : ByteArray) (k : Nat) : ∀ (f pos : Nat), s.size - pos < f → pos ≤ s.size → lex_word.go (k + 1) s f pos = some (wordF s f pos : Int) ∧ wordF s f pos ≤ s.size
  | 0, pos, h, hp => by omega
  | f + 1, pos, h, hp => by
    rw [lex_word.go, wordF]
    by_cases c : pos < s.size
    · rw [if_pos c, if_pos c, st_q, Option.bind_some]
      by_cases d : stB pos ((Utf8.decode s pos).1 : Int) = true
      · rw [if_pos d, if_pos d]; exact ⟨rfl, hp⟩
      · rw [if_neg d, if_neg d]
        have := dec_step s pos c
        exact word_go s k f _ (by omega) this.2
    · rw [if_neg c, if_neg c]; exact ⟨rfl, Nat.le_refl _⟩
def wordX (s : ByteArray) : Nat := wordF s (s.size + 1) 0
theorem word_x (s : ByteArray) (hs : s.size < 1000000) (k : Nat) : lex_word.f (k + 1) s = some (wordX s : Int) ∧ wordX s ≤ s.size := by
  obtain ⟨h1, h2⟩ := word_go s k (s.size + 1) 0 (by omega) (by omega)
  refine ⟨?_, h2⟩
  unfold lex_word.f
  rw [if_pos (by omega)]
  exact h1
theorem wordB_32 : wordB 32 = false := by decide
theorem word_st (s t : ByteArray) (X : List UInt8) (ht : t.data.toList = s.data.toList ++ 32 :: X) (hz : s.size ≠ 0) : ∀ (f f' pos : Nat), pos ≤ s.size → s.size - pos < f → s.size - pos + 1 < f' → wordF t f' pos = wordF s f pos
  | 0, f', pos, h1, h2, h3 => by omega
  | f + 1, f', pos, h1, h2, h3 => by
    obtain ⟨f', rfl⟩ : ∃ q, f' = q + 1 := ⟨f' - 1, by omega⟩
    have hl := congrArg List.length ht
    rw [List.length_append, List.length_cons, ← size_len, ← size_len] at hl
    have hd := drop_32 s t X ht pos h1
    rw [wordF, wordF, if_pos (show pos < t.size by omega)]
    by_cases c : pos < s.size
    · have hlen : (s.data.toList.drop pos).length = s.size - pos := by rw [List.length_drop, ← size_len]
      have hne : s.data.toList.drop pos ≠ [] := fun e => by rw [e] at hlen; simp at hlen; omega
      have e : Utf8.decode t pos = Utf8.decode s pos := by rw [decode_drop, decode_drop, hd, decL_app _ _ hne]
      rw [if_pos c, e]
      by_cases d : stB pos ((Utf8.decode s pos).1 : Int) = true
      · rw [if_pos d, if_pos d]
      · rw [if_neg d, if_neg d]
        have := dec_step s pos c
        exact word_st s t X ht hz f f' _ this.2 (by omega) (by omega)
    · have hp : pos = s.size := by omega
      have e : (Utf8.decode t pos).1 = 32 := by
        rw [decode_drop, hd, List.drop_of_length_le (by rw [← size_len]; omega), List.nil_append, decodeL_byt, byt0]
        unfold decodeN
        rw [if_pos (by decide)]; rfl
      have hst : stB pos (((32 : Nat)) : Int) = true := by
        unfold stB
        rw [if_neg (by omega), show ((32 : Nat) : Int) = 32 from rfl, wordB_32]; rfl
      rw [if_neg c, e, if_pos hst, hp]
def marks : List ByteArray := [(⟨#[33, 61]⟩ : ByteArray), (⟨#[60, 61]⟩ : ByteArray), (⟨#[62, 61]⟩ : ByteArray), (⟨#[61]⟩ : ByteArray), (⟨#[60]⟩ : ByteArray), (⟨#[62]⟩ : ByteArray), (⟨#[123]⟩ : ByteArray), (⟨#[125]⟩ : ByteArray), (⟨#[40]⟩ : ByteArray), (⟨#[41]⟩ : ByteArray), (⟨#[44]⟩ : ByteArray)]
def markG (s : ByteArray) : List ByteArray → Nat
  | [] => 0
  | p :: l => if preB s p = true then p.size else markG s l
theorem mark_go (s : ByteArray) (y : List ByteArray) (hy : y.length < 1000) (k : Nat) : ∀ (m i : Nat), i + m = y.length → lex_mark.l0 (k + m + 1) s y (y.length : Int) (i : Int) = some (markG s (y.drop i) : Int)
  | 0, i, h => by
    rw [show k + 0 + 1 = k + 1 by omega, lex_mark.l0, if_neg (by omega), List.drop_of_length_le (by omega)]; rfl
  | m + 1, i, h => by
    have hi : i < y.length := by omega
    have hr : rdOf ByteArray.empty y (i : Int) = y[i] := by
      unfold rdOf
      simp [List.getD_eq_getElem?_getD, hi]
    rw [show k + (m + 1) + 1 = k + m + 1 + 1 by omega, lex_mark.l0, if_pos (by omega), if_pos (by omega), if_pos (by omega), hr, pre_q, Option.bind_some, List.drop_eq_getElem_cons hi, markG]
    by_cases c : preB s y[i] = true
    · rw [if_pos c, if_pos c]
    · rw [if_neg c, if_neg c, wa1 i (by omega)]
      exact mark_go s y hy k m (i + 1) (by omega)
theorem mark_x (s : ByteArray) (k : Nat) : lex_mark.f (k + 20) s = some (markG s marks : Int) := by
  unfold lex_mark.f
  rw [Option.bind_some]
  exact mark_go s marks (by decide) (k + 8) 11 0 rfl
theorem mark_le (s : ByteArray) : ∀ y : List ByteArray, markG s y ≤ s.size
  | [] => Nat.zero_le _
  | p :: l => by
    rw [markG]
    split
    · exact pre_size ‹_›
    · exact mark_le s l
theorem mark_st (s t : ByteArray) (X : List UInt8) (ht : t.data.toList = s.data.toList ++ 32 :: X) : ∀ y : List ByteArray, (∀ p ∈ y, (32 : UInt8) ∉ p.data.toList) → markG t y = markG s y
  | [], h => rfl
  | p :: l, h => by
    rw [markG, markG, pre_32 s t p X ht (h p (List.mem_cons_self ..)), mark_st s t X ht l (fun q hq => h q (List.mem_cons_of_mem _ hq))]
theorem marks_ok : ∀ p ∈ marks, (32 : UInt8) ∉ p.data.toList := by decide
theorem marks_first : ∀ p ∈ marks, p.size ≠ 0 ∧ byt p.data.toList 0 ≠ 34 ∧ byt p.data.toList 0 ≠ 45 ∧ ¬ (48 ≤ byt p.data.toList 0 ∧ byt p.data.toList 0 ≤ 57) := by decide
theorem mark_zero (s : ByteArray) : ∀ y : List ByteArray, (∀ p ∈ y, p.size ≠ 0 ∧ byt p.data.toList 0 ≠ byt s.data.toList 0) → markG s y = 0
  | [], h => rfl
  | p :: l, h => by
    have hp := h p (List.mem_cons_self ..)
    rw [markG, if_neg (fun e => hp.2 (pre_byte e hp.1).symm), mark_zero s l (fun q hq => h q (List.mem_cons_of_mem _ hq))]
/-- What begins as a literal must is neither a word nor a mark. -/
theorem lit_only (s : ByteArray) (hz : s.size ≠ 0) (h : byt s.data.toList 0 = 34 ∨ byt s.data.toList 0 = 45 ∨ (48 ≤ byt s.data.toList 0 ∧ byt s.data.toList 0 ≤ 57)) : wordX s = 0 ∧ markG s marks = 0 := by
  constructor
  · unfold wordX
    have hd : (Utf8.decode s 0).1 = byt s.data.toList 0 := by
      rw [decode_drop, List.drop_zero, decodeL_byt]
      unfold decodeN
      rw [if_pos (by omega)]
    have all : ∀ n : Fin 128, (n.val = 34 ∨ n.val = 45 ∨ (48 ≤ n.val ∧ n.val ≤ 57)) → stB 0 (n.val : Int) = true := by decide +kernel
    rw [wordF, if_pos (by omega), hd, if_pos (all ⟨byt s.data.toList 0, by omega⟩ h)]
  · refine mark_zero s marks fun p hp => ?_
    have := marks_first p hp
    exact ⟨this.1, by omega⟩
end Go.Proofs.YtoajlmmkkcelgaaDoor.U8
namespace Go.Proofs.YtoajlmmkkcelgaaDoor.U8
open Go.RowKit Go.Proofs.YtoajlmmkkcelgaaDoor.A Go.Proofs.YtoajlmmkkcelgaaDoorW.PrintWords Go.Proofs.YtoajlmmkkcelgaaDoorW.PrintLast Go.Lib
set_option linter.unusedVariables false
set_option linter.unusedSimpArgs false
theorem next_q (s : ByteArray) (k : Nat) : lex_next.f (k + 1) s = some (goesB s.data.toList) := by
  unfold lex_next.f utf8_DecodeRuneInString.f goesB
  rw [Option.bind_some]
  by_cases hz : s.size = 0
  · have e : Lib.decodeGo s = (65533, 0) := by unfold Lib.decodeGo; rw [if_pos hz]
    have e2 : s.data.toList = [] := List.eq_nil_of_length_eq_zero (by rw [← size_len]; exact hz)
    rw [e, e2, if_neg (by decide), if_pos (by decide)]
  · rw [decGo s hz]
    have hne : s.data.toList ≠ [] := list_ne hz
    have e := dec_decodeL s.data.toList hne
    have hw := decodeL_width s.data.toList
    rw [if_pos (by omega), lgoes_q, Option.bind_some]
    by_cases hb : decodeL s.data.toList = (65533, 1)
    · rw [if_pos hb] at e
      rw [hb, e, if_pos rfl]
      decide
    · rw [if_neg hb] at e
      rw [e, if_neg (by omega)]
/-- The literal at the front: the value, how many bytes, the error. -/
def litX (s : ByteArray) : Int × Int × ByteArray × Int × Int :=
  if (scanX s).2.2.2.2 = 2 then (0, 0, ⟨#[]⟩, 0, 2)
  else if (scanX s).2.2.2.2 = 0 then
    (if goesB (scanX s).2.2.2.1.data.toList = true then (0, 0, ⟨#[]⟩, 0, 0) else ((scanX s).1, (scanX s).2.1, (scanX s).2.2.1, (s.size : Int) - ((scanX s).2.2.2.1.size : Int), 0))
  else (0, 0, ⟨#[]⟩, 0, 0)
theorem lit_x (s : ByteArray) (hs : s.size < 100000) (k : Nat) (hk : 1000000 ≤ k) : lex_literal.f k s = some (litX s) := by
  unfold lex_literal.f litX
  rw [scan_x s hs k hk, Option.bind_some]
  by_cases h2 : (scanX s).2.2.2.2 = 2
  · rw [if_pos h2, if_pos h2, h2]
  rw [if_neg h2, if_neg h2]
  by_cases h0 : (scanX s).2.2.2.2 = 0
  · rw [if_pos h0, if_pos h0, show k = k - 1 + 1 by omega, next_q, Option.bind_some]
    by_cases h : goesB (scanX s).2.2.2.1.data.toList = true
    · rw [if_pos h, if_pos h]
    · rw [if_neg h, if_neg h]
      have hb : (scanX s).2.2.2.1.size ≤ s.size := by
        generalize hr : scanX s = R at *
        obtain ⟨K, N, S, rest, e⟩ := R
        dsimp only at h0
        subst h0
        have := congrArg List.length (scan_back s (by omega) K N S rest hr).2
        rw [List.length_append, ← size_len, ← size_len] at this
        show rest.size ≤ s.size
        omega
      rw [w64 (by omega) (by omega)]
  · rw [if_neg h0, if_neg h0]
theorem lit_ok (s : ByteArray) (K N : Int) (S rest : ByteArray) (h : scanX s = (K, N, S, rest, 0)) (g : goesB rest.data.toList = false) : litX s = (K, N, S, (s.size : Int) - (rest.size : Int), 0) := by
  unfold litX
  rw [h]
  dsimp only
  rw [if_neg (show ¬ (0 : Int) = 2 by decide), if_pos rfl, g, if_neg Bool.false_ne_true]
theorem lit_go (s : ByteArray) (K N : Int) (S rest : ByteArray) (h : scanX s = (K, N, S, rest, 0)) (g : goesB rest.data.toList = true) : litX s = (0, 0, ⟨#[]⟩, 0, 0) := by
  unfold litX
  rw [h]
  dsimp only
  rw [if_neg (show ¬ (0 : Int) = 2 by decide), if_pos rfl, if_pos g]
theorem lit_er (s : ByteArray) (h : scanX s = (0, 0, ⟨#[]⟩, ⟨#[]⟩, 3)) : litX s = (0, 0, ⟨#[]⟩, 0, 0) := by
  unfold litX
  rw [h]
  dsimp only
  rw [if_neg (show ¬ (3 : Int) = 2 by decide), if_neg (show ¬ (3 : Int) = 0 by decide)]
/-- The token at the front. -/
def tokX (s : ByteArray) : Int × Int × ByteArray × Int × Int × ByteArray × Int × Int :=
  if (litX s).2.2.2.2 = 0 then
    (if (litX s).2.2.2.1 > 0 then (2, 0, ⟨#[]⟩, (litX s).1, (litX s).2.1, (litX s).2.2.1, (litX s).2.2.2.1, 0)
    else if 0 < wordX s then (1, 0, s.extract 0 (wordX s), 0, 0, ⟨#[]⟩, (wordX s : Int), 0)
    else if 0 < markG s marks then (3, 0, s.extract 0 (markG s marks), 0, 0, ⟨#[]⟩, (markG s marks : Int), 0)
    else (0, 0, ⟨#[]⟩, 0, 0, ⟨#[]⟩, 0, 3))
  else (0, 0, ⟨#[]⟩, 0, 0, ⟨#[]⟩, 0, (litX s).2.2.2.2)
theorem tok_x (s : ByteArray) (hs : s.size < 100000) (k : Nat) (hk : 1000000 ≤ k) : lex_token.f k s = some (tokX s) := by
  unfold lex_token.f tokX
  rw [lit_x s hs k hk, Option.bind_some]
  have hw := word_x s (by omega) (k - 1)
  have hm := mark_x s (k - 20)
  have hml := mark_le s marks
  rw [show k - 1 + 1 = k by omega] at hw
  rw [show k - 20 + 20 = k by omega] at hm
  by_cases h0 : (litX s).2.2.2.2 = 0
  · rw [if_pos h0, if_pos h0]
    by_cases h1 : (litX s).2.2.2.1 > 0
    · rw [if_pos h1, if_pos h1]
    rw [if_neg h1, if_neg h1, hw.1, Option.bind_some]
    by_cases h2 : 0 < wordX s
    · rw [if_pos (by omega), if_pos h2, if_pos (by omega), if_pos (by omega), Int.toNat_natCast]
    rw [if_neg (by omega), if_neg h2, hm, Option.bind_some]
    by_cases h3 : 0 < markG s marks
    · rw [if_pos (by omega), if_pos h3, if_pos (by omega), if_pos (by omega), Int.toNat_natCast]
    · rw [if_neg (by omega), if_neg h3]
  · rw [if_neg h0, if_neg h0]
theorem dg_zero (l : List UInt8) (h : goesB l = false) : dg l = 0 := by
  match l with
  | [] => rfl
  | b :: r =>
    by_cases c : 48 ≤ b.toNat ∧ b.toNat ≤ 57
    · have d : dec (b :: r) = (b.toNat, 1) := by
        unfold dec decR
        rw [byt0, if_neg (by simp), if_pos (by omega)]
      rw [goesB, d] at h
      have all : ∀ n : Fin 58, 48 ≤ n.val → wordB (n.val : Int) = true := by decide +kernel
      rw [if_neg (show ¬ (1 = 0) by decide), all ⟨b.toNat, by omega⟩ c.1] at h
      cases h
    · exact dg_neg b r c
theorem hex_kind (s : ByteArray) : ∀ (m i : Nat) (xs : List Int), (hexGo s m i xs).2.2.2.2 = 0 ∨ (hexGo s m i xs).2.2.2.2 = 2 ∨ hexGo s m i xs = (0, 0, ⟨#[]⟩, ⟨#[]⟩, 3)
  | 0, i, xs => .inr (.inr rfl)
  | m + 1, i, xs => by
    rw [hexGo]
    by_cases h1 : s.size ≤ i
    · rw [if_pos h1]; exact .inr (.inr rfl)
    rw [if_neg h1]
    by_cases h2 : byt s.data.toList i = 39
    · rw [if_pos h2]
      by_cases h3 : xs.length > 200
      · rw [if_pos h3]; exact .inr (.inl rfl)
      · rw [if_neg h3]; exact .inl rfl
    rw [if_neg h2]
    by_cases h3 : s.size < i + 2 ∨ hexV (byt s.data.toList i) < 0 ∨ hexV (byt s.data.toList (i + 1)) < 0
    · rw [if_pos h3]; exact .inr (.inr rfl)
    · rw [if_neg h3]; exact hex_kind s m _ _
/-- A literal, or none, at the front stays what it is if a blank stands behind the text: unless it can only be a literal and is none. -/
theorem lit_st (s t : ByteArray) (X : List UInt8) (ht : t.data.toList = s.data.toList ++ 32 :: X) (hz : s.size ≠ 0) (hs : t.size < 100000) (h : (tokX s).2.2.2.2.2.2.2 = 0) : litX t = litX s := by
  have hl := congrArg List.length ht
  rw [List.length_append, List.length_cons, ← size_len, ← size_len] at hl
  have hb0 := (byt_32 s t X ht 0).1 (by omega)
  by_cases h0 : (scanX s).2.2.2.2 = 0 ∧ goesB (scanX s).2.2.2.1.data.toList = false
  · generalize hr : scanX s = R at *
    obtain ⟨K, N, S, rest, e⟩ := R
    obtain ⟨h0, hg⟩ := h0
    dsimp only at h0 hg
    subst h0
    obtain ⟨hv, he⟩ := scan_back s (by omega) K N S rest hr
    have he2 : t.data.toList = showL K N S ++ (rest.data.toList ++ 32 :: X) := by rw [ht, he, List.append_assoc]
    have hg2 : goesB (rest.data.toList ++ 32 :: X) = false := by rw [goes_app]; exact hg
    obtain ⟨j, j1, j2, j3⟩ := scan_fwd t (by omega) K N S hv _ (dg_zero _ hg2) hg2 he2
    have hsz : (t.extract j t.size).size = rest.size + 1 + X.length := by
      rw [size_len, extract_toList, j1, List.length_append, List.length_cons, ← size_len]; omega
    rw [lit_ok t _ _ _ _ j3 (by rw [extract_toList, j1]; exact hg2), lit_ok s _ _ _ _ hr hg, hsz]
    congr 4
    omega
  have hwm : ¬ (wordX s = 0 ∧ markG s marks = 0) ∧ (scanX s).2.2.2.2 ≠ 2 := by
    constructor
    · intro ⟨e1, e2⟩
      unfold tokX at h
      by_cases c : (litX s).2.2.2.2 = 0
      · rw [if_pos c] at h
        have hn : ¬ (litX s).2.2.2.1 > 0 := by
          unfold litX
          by_cases d2 : (scanX s).2.2.2.2 = 2
          · rw [if_pos d2]; decide
          rw [if_neg d2]
          by_cases d0 : (scanX s).2.2.2.2 = 0
          · rw [if_pos d0, if_pos (by
              by_cases g : goesB (scanX s).2.2.2.1.data.toList = true
              · exact g
              · exact absurd ⟨d0, by simpa using g⟩ h0)]
            decide
          · rw [if_neg d0]; decide
        rw [if_neg hn, if_neg (by omega), if_neg (by omega)] at h
        simp at h
      · rw [if_neg c] at h
        exact c h
    · intro e
      have : (litX s).2.2.2.2 = 2 := by unfold litX; rw [if_pos e]
      unfold tokX at h
      rw [if_neg (by omega)] at h
      dsimp only at h
      omega
  have hfb : ¬ (byt s.data.toList 0 = 34 ∨ byt s.data.toList 0 = 45 ∨ (48 ≤ byt s.data.toList 0 ∧ byt s.data.toList 0 ≤ 57)) := fun e => hwm.1 (lit_only s hz e)
  have hps := pre_32 s t (⟨#[120, 39]⟩ : ByteArray) X ht (by decide)
  have es : scanX s = if preB s (⟨#[120, 39]⟩ : ByteArray) = true then hexGo s s.size 2 [] else boolS s := by
    unfold scanX
    rw [if_neg hz, if_neg (by omega)]
    by_cases c : preB s (⟨#[120, 39]⟩ : ByteArray) = true
    · rw [if_pos c, if_pos c]
    · rw [if_neg c, if_neg c, if_neg (by omega)]
  have et : scanX t = if preB s (⟨#[120, 39]⟩ : ByteArray) = true then hexGo t t.size 2 [] else boolS t := by
    unfold scanX
    rw [if_neg (by omega), hb0, if_neg (by omega), hps]
    by_cases c : preB s (⟨#[120, 39]⟩ : ByteArray) = true
    · rw [if_pos c, if_pos c]
    · rw [if_neg c, if_neg c, if_neg (by omega)]
  by_cases c : preB s (⟨#[120, 39]⟩ : ByteArray) = true
  · rw [if_pos c] at es et
    have h2 : 2 ≤ s.size := pre_size c
    rcases hex_kind s s.size 2 [] with k0 | k2 | k3
    · rw [es] at h0
      have hg : goesB (hexGo s s.size 2 []).2.2.2.1.data.toList = true := by
        by_cases g : goesB (hexGo s s.size 2 []).2.2.2.1.data.toList = true
        · exact g
        · exact absurd ⟨k0, by simpa using g⟩ h0
      generalize hr : hexGo s s.size 2 [] = R at *
      obtain ⟨K, N, S, rest, e⟩ := R
      dsimp only at k0 hg
      subst k0
      obtain ⟨l, rfl, rfl, rfl, k4, k5⟩ := hex_back s s.size 2 [] K N S rest h2 hr
      have hd : t.data.toList.drop 2 = hexB l ++ 39 :: (rest.data.toList ++ 32 :: X) := by
        rw [drop_32 s t X ht 2 h2, k5, List.append_assoc]; rfl
      obtain ⟨j, j1, j2, j3⟩ := hex_fwd t _ l t.size 2 [] (by omega) (by omega) hd k4
      rw [lit_go t _ _ _ _ (et.trans j3) (by rw [extract_toList, j1, goes_app]; exact hg), lit_go s _ _ _ _ es hg]
    · exact absurd (by rw [es]; exact k2) hwm.2
    · have := hex_err s t X ht (s.size) t.size 2 [] h2 (by omega) (by omega) k3
      rw [lit_er t (et.trans this), lit_er s (es.trans k3)]
  · rw [if_neg c] at es et
    have p1 := pre_32 s t wTrue X ht (by decide)
    have p2 := pre_32 s t wFalse X ht (by decide)
    have g1 : preB s wTrue = true → goesB (t.data.toList.drop 4) = goesB (s.data.toList.drop 4) := fun e => by
      rw [drop_32 s t X ht 4 (pre_size e), goes_app]
    have g2 : preB s wFalse = true → goesB (t.data.toList.drop 5) = goesB (s.data.toList.drop 5) := fun e => by
      rw [drop_32 s t X ht 5 (pre_size e), goes_app]
    have b1 : ¬ (preB s wTrue = true ∧ goesB (s.data.toList.drop 4) = false) := fun e => h0 (by rw [es, boolS, if_pos e]; exact ⟨rfl, by rw [extract_toList]; exact e.2⟩)
    have b2 : ¬ (preB s wFalse = true ∧ goesB (s.data.toList.drop 5) = false) := fun e => h0 (by rw [es, boolS, if_neg b1, if_pos e]; exact ⟨rfl, by rw [extract_toList]; exact e.2⟩)
    have e1 : boolS s = (0, 0, ⟨#[]⟩, ⟨#[]⟩, 3) := by rw [boolS, if_neg b1, if_neg b2]
    have e2 : boolS t = (0, 0, ⟨#[]⟩, ⟨#[]⟩, 3) := by
      rw [boolS, p1, p2, if_neg (fun e => b1 ⟨e.1, by rw [← g1 e.1]; exact e.2⟩), if_neg (fun e => b2 ⟨e.1, by rw [← g2 e.1]; exact e.2⟩)]
    rw [lit_er t (et.trans e2), lit_er s (es.trans e1)]
theorem extract_32 (s t : ByteArray) (X : List UInt8) (ht : t.data.toList = s.data.toList ++ 32 :: X) (n : Nat) (hn : n ≤ s.size) : t.extract 0 n = s.extract 0 n := by
  have hl := congrArg List.length ht
  rw [List.length_append, List.length_cons, ← size_len, ← size_len] at hl
  apply baext
  have a := ext_part s 0 n (by omega)
  have b := ext_part t 0 n (by omega)
  rw [Nat.zero_add] at a b
  rw [a, b, List.drop_zero, List.drop_zero, ht, List.take_append_of_le_length (by rw [← size_len]; exact hn)]
/-- The token at the front stays what it is if a blank stands behind the text. -/
theorem tok_st (s t : ByteArray) (X : List UInt8) (ht : t.data.toList = s.data.toList ++ 32 :: X) (hz : s.size ≠ 0) (hs : t.size < 100000) (h : (tokX s).2.2.2.2.2.2.2 = 0) : tokX t = tokX s := by
  have hl := congrArg List.length ht
  rw [List.length_append, List.length_cons, ← size_len, ← size_len] at hl
  have e1 := lit_st s t X ht hz hs h
  have e2 : wordX t = wordX s := word_st s t X ht hz _ _ 0 (by omega) (by omega) (by omega)
  have e3 := mark_st s t X ht marks marks_ok
  have w := (word_x s (by omega) 0).2
  have m := mark_le s marks
  unfold tokX
  rw [e1, e2, e3, extract_32 s t X ht _ w, extract_32 s t X ht _ m]
end Go.Proofs.YtoajlmmkkcelgaaDoor.U8
namespace Go.Proofs.YtoajlmmkkcelgaaDoor.U8
open Go.RowKit Go.Proofs.YtoajlmmkkcelgaaDoor.A Go.Proofs.YtoajlmmkkcelgaaDoorW.PrintWords Go.Proofs.YtoajlmmkkcelgaaDoorW.PrintLast Go.Lib
set_option linter.unusedVariables false
set_option linter.unusedSimpArgs false
abbrev TokS := S68
/-- A token without its place. -/
def strip (t : TokS) : TokS := ⟨t.f0, 0, t.f2, t.f3⟩
/-- The token at the front, without its place; how many bytes; the error. -/
def tk (s : ByteArray) : TokS := ⟨(tokX s).1, 0, (tokX s).2.2.1, ⟨(tokX s).2.2.2.1, (tokX s).2.2.2.2.1, (tokX s).2.2.2.2.2.1⟩⟩
def tn (s : ByteArray) : Nat := (tokX s).2.2.2.2.2.2.1.toNat
def te (s : ByteArray) : Int := (tokX s).2.2.2.2.2.2.2
def blk (b : Nat) : Bool := b == 32 || b == 9 || b == 10 || b == 13
theorem blank_q (b : Nat) : lex_blank.f (b : Int) = some (blk b) := by
  unfold lex_blank.f blk
  by_cases h1 : b = 32
  · subst h1; rfl
  rw [if_neg (by omega)]
  by_cases h2 : b = 9
  · subst h2; rfl
  rw [if_neg (by omega)]
  by_cases h3 : b = 10
  · subst h3; rfl
  rw [if_neg (by omega), beq_eq_false_iff_ne.2 h1, beq_eq_false_iff_ne.2 h2, beq_eq_false_iff_ne.2 h3]
  by_cases h4 : b = 13
  · subst h4; rfl
  · rw [beq_eq_false_iff_ne.2 h4, beq_eq_false_iff_ne.2 (show ((b : Nat) : Int) ≠ 13 by omega)]; rfl
/-- The tokens of a text, without their places, behind those that are there; the error. -/
def lexT : Nat → ByteArray → List TokS → List TokS × Int
  | 0, _, _ => ([], 9)
  | f + 1, s, acc =>
    if s.size = 0 then (acc, 0)
    else if blk (byt s.data.toList 0) = true then lexT f (s.extract 1 s.size) acc
    else if te s = 0 then (if acc.length = 300 then ([], 2) else lexT f (s.extract (tn s) s.size) (acc ++ [tk s]))
    else ([], te s)
theorem lit_n (s : ByteArray) : (litX s).2.2.2.1 ≤ s.size := by
  unfold litX
  by_cases h2 : (scanX s).2.2.2.2 = 2
  · rw [if_pos h2]; show (0 : Int) ≤ _; omega
  rw [if_neg h2]
  by_cases h0 : (scanX s).2.2.2.2 = 0
  · rw [if_pos h0]
    by_cases h : goesB (scanX s).2.2.2.1.data.toList = true
    · rw [if_pos h]; show (0 : Int) ≤ _; omega
    · rw [if_neg h]; show (s.size : Int) - _ ≤ _; omega
  · rw [if_neg h0]; show (0 : Int) ≤ _; omega
theorem tn_ok (s : ByteArray) (hs : s.size < 1000000) (h : te s = 0) : 1 ≤ tn s ∧ tn s ≤ s.size ∧ (tokX s).2.2.2.2.2.2.1 = (tn s : Int) := by
  unfold te at h
  unfold tn
  have hl := lit_n s
  have hw := (word_x s hs 0).2
  have hm := mark_le s marks
  unfold tokX at h ⊢
  by_cases h0 : (litX s).2.2.2.2 = 0
  · rw [if_pos h0] at h ⊢
    by_cases h1 : (litX s).2.2.2.1 > 0
    · rw [if_pos h1]; dsimp only; omega
    rw [if_neg h1] at h ⊢
    by_cases h2 : 0 < wordX s
    · rw [if_pos h2]; dsimp only; omega
    rw [if_neg h2] at h ⊢
    by_cases h3 : 0 < markG s marks
    · rw [if_pos h3]; dsimp only; omega
    · rw [if_neg h3] at h; simp at h
  · rw [if_neg h0] at h
    exact absurd h h0
theorem ext_size (s : ByteArray) (n : Nat) (h : n ≤ s.size) : (s.extract n s.size).size = s.size - n := by rw [ByteArray.size_extract]; omega
theorem lex_q (k : Nat) (hk : 1000000 ≤ k) : ∀ (f : Nat) (s : ByteArray) (l : List TokS) (a : Int), s.size < f → s.size < 100000 → l.length ≤ 300 →
    ∃ L at', lex_Lex.l0 (k + f) s l a = some (L, at', (lexT f s (l.map strip)).2) ∧ L.map strip = (lexT f s (l.map strip)).1 ∧ L.length ≤ 300
  | 0, s, l, a, h, hs, hl => by omega
  | f + 1, s, l, a, h, hs, hl => by
    rw [show k + (f + 1) = k + f + 1 by omega, lex_Lex.l0, lexT]
    by_cases hz : s.size = 0
    · rw [if_pos ((toList_nil s).2 hz), if_pos hz]
      exact ⟨l, a, rfl, rfl, hl⟩
    rw [if_neg (fun e => hz ((toList_nil s).1 e)), if_neg hz, if_pos (by omega), b0_at, blank_q, Option.bind_some]
    by_cases hb : blk (byt s.data.toList 0) = true
    · rw [if_pos hb, if_pos hb, if_pos (by omega)]
      have e1 := ext_size s 1 (by omega)
      exact lex_q k hk f _ l _ (by rw [e1]; omega) (by rw [e1]; omega) hl
    rw [if_neg hb, if_neg hb, tok_x s hs (k + f) (by omega), Option.bind_some]
    by_cases he : te s = 0
    · obtain ⟨n1, n2, n3⟩ := tn_ok s (by omega) he
      have he' := he
      unfold te at he'
      rw [if_pos he', if_pos he, List.length_map]
      by_cases h3 : l.length = 300
      · rw [if_pos (by omega), if_pos h3]
        exact ⟨[], _, rfl, rfl, by simp⟩
      rw [if_neg (by omega), if_neg h3, if_pos (by omega), n3, if_pos (by omega), if_pos (by omega), Int.toNat_natCast]
      have hrc : utf8_RuneCountInString.f (s.extract 0 (tn s)) = some (Lib.runeCount (s.extract 0 (tn s)) : Int) := by
        unfold utf8_RuneCountInString.f
        rw [if_pos (by rw [ByteArray.size_extract]; omega)]
      rw [hrc, Option.bind_some]
      have e1 := ext_size s (tn s) n2
      have ih := lex_q k hk f (s.extract (tn s) s.size) (l ++ [(⟨(tokX s).1, a, (tokX s).2.2.1, ⟨(tokX s).2.2.2.1, (tokX s).2.2.2.2.1, (tokX s).2.2.2.2.2.1⟩⟩ : TokS)]) (wrap64 (a + (Lib.runeCount (s.extract 0 (tn s)) : Int))) (by rw [e1]; omega) (by rw [e1]; omega) (by rw [List.length_append]; show l.length + 1 ≤ 300; omega)
      rw [List.map_append] at ih
      exact ih
    · have he' := he
      unfold te at he'
      rw [if_neg he', if_neg he]
      exact ⟨[], _, rfl, rfl, by simp⟩
theorem lexT_fuel : ∀ (f g : Nat) (s : ByteArray) (acc : List TokS), s.size < f → s.size < g → s.size < 1000000 → lexT f s acc = lexT g s acc
  | 0, g, s, acc, h1, h2, hs => by omega
  | f + 1, g, s, acc, h1, h2, hs => by
    obtain ⟨g, rfl⟩ : ∃ q, g = q + 1 := ⟨g - 1, by omega⟩
    rw [lexT, lexT]
    by_cases hz : s.size = 0
    · rw [if_pos hz, if_pos hz]
    rw [if_neg hz, if_neg hz]
    by_cases hb : blk (byt s.data.toList 0) = true
    · have e1 := ext_size s 1 (by omega)
      rw [if_pos hb, if_pos hb, lexT_fuel f g _ acc (by rw [e1]; omega) (by rw [e1]; omega) (by rw [e1]; omega)]
    rw [if_neg hb, if_neg hb]
    by_cases he : te s = 0
    · obtain ⟨n1, n2, n3⟩ := tn_ok s hs he
      have e1 := ext_size s (tn s) n2
      rw [if_pos he, if_pos he]
      by_cases h3 : acc.length = 300
      · rw [if_pos h3, if_pos h3]
      · rw [if_neg h3, if_neg h3, lexT_fuel f g _ _ (by rw [e1]; omega) (by rw [e1]; omega) (by rw [e1]; omega)]
    · rw [if_neg he, if_neg he]
/-- The tokens of a text with a blank and more behind it: first its own ones. -/
theorem lex_front : ∀ (f : Nat) (s t : ByteArray) (X : List UInt8) (acc L : List TokS), s.size < f → t.data.toList = s.data.toList ++ 32 :: X → t.size < 100000 → lexT f s acc = (L, 0) → ∃ more, L = acc ++ more ∧ ∀ (acc2 : List TokS) (g : Nat), acc2.length + more.length ≤ 300 → t.size < g → lexT g t acc2 = lexT (X.length + 2) ⟨(32 :: X).toArray⟩ (acc2 ++ more)
  | 0, s, t, X, acc, L, h1, ht, hs, h => by omega
  | f + 1, s, t, X, acc, L, h1, ht, hs, h => by
    have hl := congrArg List.length ht
    rw [List.length_append, List.length_cons, ← size_len, ← size_len] at hl
    rw [lexT] at h
    by_cases hz : s.size = 0
    · rw [if_pos hz] at h
      simp only [Prod.mk.injEq, and_true] at h
      have e : t = ⟨(32 :: X).toArray⟩ := baext (by rw [ht, ba_nil s hz]; rfl)
      refine ⟨[], by rw [List.append_nil]; exact h.symm, fun acc2 g _ hg => ?_⟩
      rw [List.append_nil, ← e]
      exact lexT_fuel _ _ _ _ hg (by omega) (by omega)
    rw [if_neg hz] at h
    have hb0 := (byt_32 s t X ht 0).1 (by omega)
    by_cases hb : blk (byt s.data.toList 0) = true
    · have e1 := ext_size s 1 (by omega)
      have e2 := ext_size t 1 (by omega)
      rw [if_pos hb] at h
      obtain ⟨more, m1, m2⟩ := lex_front f (s.extract 1 s.size) (t.extract 1 t.size) X acc L (by rw [e1]; omega) (by rw [extract_toList, extract_toList, drop_32 s t X ht 1 (by omega)]) (by rw [e2]; omega) h
      refine ⟨more, m1, fun acc2 g h2 hg => ?_⟩
      obtain ⟨g, rfl⟩ : ∃ q, g = q + 1 := ⟨g - 1, by omega⟩
      rw [lexT, if_neg (by omega), hb0, if_pos hb]
      exact m2 acc2 g h2 (by rw [e2]; omega)
    rw [if_neg hb] at h
    by_cases he : te s = 0
    · obtain ⟨n1, n2, n3⟩ := tn_ok s (by omega) he
      have e1 := ext_size s (tn s) n2
      have e2 := ext_size t (tn s) (by omega)
      have hts := tok_st s t X ht hz hs he
      have t1 : te t = 0 := by unfold te; rw [hts]; exact he
      have t2 : tn t = tn s := by unfold tn; rw [hts]
      have t3 : tk t = tk s := by unfold tk; rw [hts]
      rw [if_pos he] at h
      by_cases h3 : acc.length = 300
      · rw [if_pos h3] at h; simp at h
      rw [if_neg h3] at h
      obtain ⟨more, m1, m2⟩ := lex_front f (s.extract (tn s) s.size) (t.extract (tn s) t.size) X _ L (by rw [e1]; omega) (by rw [extract_toList, extract_toList, drop_32 s t X ht _ n2]) (by rw [e2]; omega) h
      refine ⟨tk s :: more, by rw [m1, List.append_assoc]; rfl, fun acc2 g h2 hg => ?_⟩
      obtain ⟨g, rfl⟩ : ∃ q, g = q + 1 := ⟨g - 1, by omega⟩
      rw [List.length_cons] at h2
      rw [lexT, if_neg (by omega), hb0, if_neg hb, if_pos t1, if_neg (by omega), t2, t3, m2 (acc2 ++ [tk s]) g (by rw [List.length_append]; show acc2.length + 1 + _ ≤ _; omega) (by rw [e2]; omega), List.append_assoc]; rfl
    · rw [if_neg he] at h
      simp only [Prod.mk.injEq] at h
      exact absurd h.2 he
/-- Blanks at the front. -/
theorem lex_skip (b : ByteArray) (hs : b.size < 90000) : ∀ (W : List UInt8) (acc : List TokS) (f : Nat), (∀ x ∈ W, blk x.toNat = true) → W.length < 1000 → W.length + b.size < f → lexT f ⟨(W ++ b.data.toList).toArray⟩ acc = lexT (b.size + 1) b acc
  | [], acc, f, hW, hl, hf => by
    have e : (⟨([] ++ b.data.toList).toArray⟩ : ByteArray) = b := baext (by rfl)
    rw [e]
    exact lexT_fuel _ _ _ _ (by simpa using hf) (by omega) (by omega)
  | x :: W, acc, f, hW, hl, hf => by
    obtain ⟨f, rfl⟩ : ∃ q, f = q + 1 := ⟨f - 1, by omega⟩
    rw [List.length_cons] at hl hf
    have hz : (⟨(x :: W ++ b.data.toList).toArray⟩ : ByteArray).size ≠ 0 := by rw [mk_size]; simp
    have hb : blk (byt (⟨(x :: W ++ b.data.toList).toArray⟩ : ByteArray).data.toList 0) = true := hW x (List.mem_cons_self ..)
    have e : (⟨(x :: W ++ b.data.toList).toArray⟩ : ByteArray).extract 1 (⟨(x :: W ++ b.data.toList).toArray⟩ : ByteArray).size = ⟨(W ++ b.data.toList).toArray⟩ := baext (by rw [extract_toList]; rfl)
    rw [lexT, if_neg hz, if_pos hb, e]
    exact lex_skip b hs W acc f (fun y hy => hW y (List.mem_cons_of_mem _ hy)) (by omega) (by omega)
end Go.Proofs.YtoajlmmkkcelgaaDoor.U8
namespace Go.Proofs.YtoajlmmkkcelgaaDoor.U8
open Go.RowKit Go.Proofs.YtoajlmmkkcelgaaDoor.A Go.Proofs.YtoajlmmkkcelgaaDoorW.PrintWords Go.Proofs.YtoajlmmkkcelgaaDoorW.PrintLast Go.Lib
set_option linter.unusedVariables false
set_option linter.unusedSimpArgs false
theorem encL_app : ∀ (x y : List Nat), encL (x ++ y) = encL x ++ encL y
  | [], y => rfl
  | c :: x, y => by rw [List.cons_append, encL, encL, encL_app x y, List.append_assoc]
theorem valid_runesL (x : List UInt8) (h : validD x = true) : encL (runesOf x) = x ∧ ∀ c ∈ runesOf x, okC c := valid_runes ⟨x.toArray⟩ h
theorem valid_app (x y : List UInt8) (hx : validD x = true) (hy : validD y = true) : validD (x ++ y) = true := by
  obtain ⟨e1, o1⟩ := valid_runesL x hx
  obtain ⟨e2, o2⟩ := valid_runesL y hy
  have h := (runes_enc (runesOf x ++ runesOf y) (x ++ y).length (fun c hc => by
    rcases List.mem_append.1 hc with hc | hc
    · exact o1 c hc
    · exact o2 c hc) (by rw [encL_app, e1, e2]; exact Nat.le_refl _)).2
  rw [encL_app, e1, e2] at h
  rw [validD_validF]
  exact h
theorem valid_ascii (l : List UInt8) (h : ∀ b ∈ l, b.toNat < 128) : validD l = true := by
  rw [validD_validF]
  induction l with
  | nil => rfl
  | cons b t ih =>
    have hb : b.toNat < 128 := h b (List.mem_cons_self ..)
    have hd : dec (b :: t) = (b.toNat, 1) := by
      unfold dec decR
      rw [if_neg (by simp), if_pos (show byt (b :: t) 0 < 128 from hb)]
      rfl
    rw [List.length_cons, validF, if_neg (by simp), hd, if_neg (show ¬ (1 : Nat) = 0 by decide)]
    exact ih (fun x hx => h x (List.mem_cons_of_mem _ hx))
theorem lexT_shift : ∀ (f : Nat) (s : ByteArray) (acc L : List TokS), lexT f s acc = (L, 0) → ∃ more, L = acc ++ more ∧ ∀ acc2 : List TokS, acc2.length + more.length ≤ 300 → lexT f s acc2 = (acc2 ++ more, 0)
  | 0, s, acc, L, h => by
    rw [lexT] at h
    simp only [Prod.mk.injEq] at h
    exact absurd h.2 (by decide)
  | f + 1, s, acc, L, h => by
    rw [lexT] at h
    by_cases hz : s.size = 0
    · rw [if_pos hz] at h
      simp only [Prod.mk.injEq, and_true] at h
      refine ⟨[], by rw [List.append_nil]; exact h.symm, fun acc2 _ => ?_⟩
      rw [lexT, if_pos hz, List.append_nil]
    rw [if_neg hz] at h
    by_cases hb : blk (byt s.data.toList 0) = true
    · rw [if_pos hb] at h
      obtain ⟨more, m1, m2⟩ := lexT_shift f _ _ _ h
      refine ⟨more, m1, fun acc2 h2 => ?_⟩
      rw [lexT, if_neg hz, if_pos hb]
      exact m2 acc2 h2
    rw [if_neg hb] at h
    by_cases he : te s = 0
    · rw [if_pos he] at h
      by_cases h3 : acc.length = 300
      · rw [if_pos h3] at h; simp at h
      rw [if_neg h3] at h
      obtain ⟨more, m1, m2⟩ := lexT_shift f _ _ _ h
      refine ⟨tk s :: more, by rw [m1, List.append_assoc]; rfl, fun acc2 h2 => ?_⟩
      rw [List.length_cons] at h2
      rw [lexT, if_neg hz, if_neg hb, if_pos he, if_neg (by omega), m2 (acc2 ++ [tk s]) (by rw [List.length_append]; show acc2.length + 1 + _ ≤ _; omega), List.append_assoc]
      rfl
    · rw [if_neg he] at h
      simp only [Prod.mk.injEq] at h
      exact absurd h.2 he
/-- Two texts with blanks between. -/
theorem lexT_cat (a b t : ByteArray) (W : List UInt8) (La Lb : List TokS) (hW : ∀ x ∈ W, blk x.toNat = true) (hw : W.length < 900) (ha : a.size < 4000) (hb : b.size < 4000) (ht : t.data.toList = a.data.toList ++ 32 :: (W ++ b.data.toList))
    (h1 : lexT (a.size + 1) a [] = (La, 0)) (h2 : lexT (b.size + 1) b [] = (Lb, 0)) (hl : La.length + Lb.length ≤ 300) : lexT (t.size + 1) t [] = (La ++ Lb, 0) := by
  have hts := congrArg List.length ht
  rw [List.length_append, List.length_cons, List.length_append, ← size_len, ← size_len, ← size_len] at hts
  obtain ⟨more, m1, m2⟩ := lex_front (a.size + 1) a t (W ++ b.data.toList) [] La (by omega) ht (by omega) h1
  rw [List.nil_append] at m1
  subst m1
  obtain ⟨mb, n1, n2⟩ := lexT_shift _ _ _ _ h2
  rw [List.nil_append] at n1
  subst n1
  have hsk := lex_skip b (by omega) (32 :: W) La ((W ++ b.data.toList).length + 2) (fun x hx => by
    rcases List.mem_cons.1 hx with rfl | hx
    · decide
    · exact hW x hx) (by rw [List.length_cons]; omega) (by rw [List.length_cons, List.length_append, ← size_len]; omega)
  rw [m2 [] (t.size + 1) (by simp; omega) (by omega), List.nil_append]
  exact hsk.trans (n2 La hl)
end Go.Proofs.YtoajlmmkkcelgaaDoor.U8
namespace Go.Proofs.YtoajlmmkkcelgaaDoor.Pure
open Go.RowKit Go.Proofs.YtoajlmmkkcelgaaDoor.A Go.Proofs.YtoajlmmkkcelgaaDoor.U8 Go.Proofs.YtoajlmmkkcelgaaDoorW.PrintWords Go.Proofs.YtoajlmmkkcelgaaDoorW.PrintLast Go.Lib
set_option linter.unusedVariables false
set_option linter.unusedSimpArgs false
set_option maxRecDepth 100000 in
theorem awakeL_true : caduceuslaw07_awake.f 60 = some true := by decide +kernel
theorem awakeL_ev (k : Nat) (h : 60 ≤ k) : caduceuslaw07_awake.f k = some true := at_rounds (fun k => caduceuslaw07_awake.mono k) h awakeL_true
abbrev TokA := S68
abbrev TokR := S81
def toRef (t : TokA) : TokR := ⟨t.f0, t.f1, t.f2, ⟨t.f3.f0, t.f3.f1, t.f3.f2⟩⟩
theorem refs_l0 (k : Nat) (x : List TokA) (hx : x.length < 1000) : ∀ (m i : Nat) (acc : List TokR), x.length - i ≤ m → i ≤ x.length → acc.length + m < 100000 →
    caduceuslaw07_refs.l0 (k + m + 1) x acc (i : Int) = some (acc ++ (x.drop i).map toRef)
  | m, i, acc, h, hi, ha => by
    by_cases hlt : i < x.length
    · obtain ⟨m, rfl⟩ : ∃ q, m = q + 1 := ⟨m - 1, by omega⟩
      have w1 : wrap64 ((i : Int) + 1) = ((i + 1 : Nat) : Int) := by rw [w64 (by omega) (by omega)]; omega
      have hd : x.drop i = x[i] :: x.drop (i + 1) := List.drop_eq_getElem_cons hlt
      have hg : rd_T68 x (i : Int) = x[i] := by
        unfold rd_T68
        rw [Int.toNat_natCast, List.getD_eq_getElem?_getD, List.getElem?_eq_getElem hlt]; rfl
      rw [show k + (m + 1) + 1 = (k + m + 1) + 1 by omega, caduceuslaw07_refs.l0, if_pos (by omega), if_pos (by omega), if_pos (by omega), w1, hg]
      rw [refs_l0 k x hx m (i + 1) _ (by omega) (by omega) (by rw [List.length_append]; show acc.length + 1 + m < _; omega), hd, List.map_cons, List.append_assoc]
      rfl
    · rw [caduceuslaw07_refs.l0, if_neg (by omega), List.drop_eq_nil_of_le (by omega), List.map_nil, List.append_nil]
theorem refs_q (k : Nat) (x : List TokA) (hx : x.length < 1000) : caduceuslaw07_refs.f (k + 1001) x = some (x.map toRef) := by
  unfold caduceuslaw07_refs.f
  have h := refs_l0 k x hx 1000 0 [] (by omega) (by omega) (by simp)
  rw [List.nil_append, List.drop_zero] at h
  exact h
def bare (t : TokR) : Int × ByteArray × Int × Int × ByteArray := (t.f0, t.f2, t.f3.f0, t.f3.f1, t.f3.f2)
theorem same_l0 (k : Nat) (x y : List TokR) (hl : x.length = y.length) (hx : x.length < 1000) (he : x.map bare = y.map bare) : ∀ (m i : Nat), x.length - i ≤ m → i ≤ x.length → caduceusref07_Same.l0 (k + m + 1) x y true (i : Int) = some true
  | m, i, h, hi => by
    by_cases hlt : i < x.length
    · obtain ⟨m, rfl⟩ : ∃ q, m = q + 1 := ⟨m - 1, by omega⟩
      have hlt2 : i < y.length := by omega
      have w1 : wrap64 ((i : Int) + 1) = ((i + 1 : Nat) : Int) := by rw [w64 (by omega) (by omega)]; omega
      have hg : ∀ (z : List TokR) (hz : i < z.length), rd_T81 z (i : Int) = z[i] := fun z hz => by
        unfold rd_T81
        rw [Int.toNat_natCast, List.getD_eq_getElem?_getD, List.getElem?_eq_getElem hz]; rfl
      have hb : bare x[i] = bare y[i] := by
        have e := congrArg (fun q => q[i]?) he
        simp only [List.getElem?_map, List.getElem?_eq_getElem hlt, List.getElem?_eq_getElem hlt2, Option.map_some, Option.some.injEq] at e
        exact e
      unfold bare at hb
      simp only [Prod.mk.injEq] at hb
      obtain ⟨b0, b1, b2, b3, b4⟩ := hb
      rw [show k + (m + 1) + 1 = (k + m + 1) + 1 by omega, caduceusref07_Same.l0, if_pos (by omega), if_pos (by omega), if_pos (by omega), hg x hlt, hg y hlt2, b0, b1, b2, b3, b4, if_pos rfl, if_pos rfl, if_neg (by simp), if_pos rfl, w1]
      exact same_l0 k x y hl hx he m (i + 1) (by omega) (by omega)
    · rw [caduceusref07_Same.l0, if_neg (by omega)]
theorem same_q (k : Nat) (x y : List TokR) (hx : x.length < 1000) (he : x.map bare = y.map bare) : caduceusref07_Same.f (k + 1001) x y true = some true := by
  have hl : x.length = y.length := by have := congrArg List.length he; simpa using this
  unfold caduceusref07_Same.f
  rw [if_pos (by omega)]
  exact same_l0 k x y hl hx he 1000 0 (by omega) (by omega)
theorem lex_ev (s : ByteArray) (hs : s.size < 100000) (k : Nat) (hk : 1200000 ≤ k) : ∃ L at' e, lex_Lex.f k s = some (L, at', e) ∧ L.length ≤ 300 ∧ (e = 0 → validD s.data.toList = true ∧ lexT (s.size + 1) s [] = (L.map strip, 0)) ∧
    (∀ L', validD s.data.toList = true → lexT (s.size + 1) s [] = (L', 0) → e = 0 ∧ L.map strip = L') := by
  have hv : utf8_ValidString.f s = some (validD s.data.toList) := by
    unfold utf8_ValidString.f
    rw [if_pos (by omega)]
  unfold lex_Lex.f
  rw [hv, Option.bind_some]
  by_cases h : validD s.data.toList = true
  · rw [if_pos h]
    obtain ⟨L, at', h1, h2, h3⟩ := lex_q (k - (s.size + 1)) (by omega) (s.size + 1) s [] 0 (by omega) hs (by simp)
    rw [show k - (s.size + 1) + (s.size + 1) = k by omega] at h1
    refine ⟨L, at', _, h1, h3, fun he => ⟨h, ?_⟩, fun L' _ hL => ?_⟩
    · rw [List.map_nil] at h2 he
      rw [h2]
      exact Prod.ext rfl he
    · rw [List.map_nil] at h2 ⊢
      rw [h2, hL]
      exact ⟨rfl, rfl⟩
  · rw [if_neg h]
    exact ⟨[], 0, 3, rfl, by simp, fun e => absurd e (by decide), fun L' hv' => absurd hv' h⟩
theorem bare_map (X Y : List TokA) (h : X.map strip = Y.map strip) : (X.map toRef).map bare = (Y.map toRef).map bare := by
  have e : ∀ Z : List TokA, (Z.map toRef).map bare = (Z.map strip).map fun t => (t.f0, t.f2, t.f3.f0, t.f3.f1, t.f3.f2) := by
    intro Z
    rw [List.map_map, List.map_map]
    rfl
  rw [e, e, h]
end Go.Proofs.YtoajlmmkkcelgaaDoor.Pure
namespace Go.Proofs.YtoajlmmkkcelgaaDoor.U8
open Go.RowKit Go.Proofs.YtoajlmmkkcelgaaDoor.A Go.Proofs.YtoajlmmkkcelgaaDoorW.PrintWords Go.Proofs.YtoajlmmkkcelgaaDoorW.PrintLast Go.Lib
set_option linter.unusedVariables false
set_option linter.unusedSimpArgs false
theorem ext0D (s : ByteArray) (n : Nat) (h : n ≤ s.size) : (s.extract 0 n).data.toList = s.data.toList.take n := by
  have e := ByteArray.data_extract (a := s) (b := 0) (e := n)
  rw [ByteArray.data_extract, Array.toList_extract]
  simp
/-- What stands behind runes. -/
theorem valid_behind (y : List UInt8) : ∀ (cs : List Nat) (m : Nat), (∀ c ∈ cs, okC c) → (encL cs ++ y).length ≤ m → validF m (encL cs ++ y) = true → ∃ m', y.length ≤ m' ∧ validF m' y = true
  | [], m, h, hm, hv => ⟨m, hm, hv⟩
  | c :: cs, m, h, hm, hv => by
    have hp := enc_pos c
    rw [encL, List.append_assoc] at hv hm
    rw [List.length_append] at hm
    obtain ⟨m, rfl⟩ : ∃ q, m = q + 1 := ⟨m - 1, by omega⟩
    have hne : (encodeRune (c : Int) ++ (encL cs ++ y)).isEmpty = false := by
      cases he : encodeRune (c : Int) with
      | nil => rw [he] at hp; simp at hp
      | cons a b => rfl
    rw [validF, hne, if_neg (by decide), dec_encode c (h c (List.mem_cons_self ..)), if_neg (show ¬ (encodeRune (c : Int)).length = 0 by omega), List.drop_left] at hv
    exact valid_behind y cs m (fun x hx => h x (List.mem_cons_of_mem _ hx)) (by omega) hv
theorem valid_of (m : Nat) (l : List UInt8) (hl : l.length ≤ m) (h : validF m l = true) : validD l = true := by
  obtain ⟨e1, e2⟩ := enc_runes m l hl h
  rw [validD_validF]
  have := (runes_enc (runesF m l) l.length e2 (by rw [e1]; exact Nat.le_refl _)).2
  rwa [e1] at this
theorem valid_suffix (x y : List UInt8) (hx : validD x = true) (h : validD (x ++ y) = true) : validD y = true := by
  obtain ⟨e1, o1⟩ := valid_runesL x hx
  rw [validD_validF, ← e1] at h
  obtain ⟨m', h1, h2⟩ := valid_behind y _ _ o1 (Nat.le_refl _) h
  exact valid_of m' y h1 h2
theorem runes_app (x y : List UInt8) (hx : validD x = true) (hy : validD y = true) : runesOf (x ++ y) = runesOf x ++ runesOf y := by
  obtain ⟨e1, o1⟩ := valid_runesL x hx
  obtain ⟨e2, o2⟩ := valid_runesL y hy
  have h := (runes_enc (runesOf x ++ runesOf y) (x ++ y).length (fun c hc => by
    rcases List.mem_append.1 hc with hc | hc
    · exact o1 c hc
    · exact o2 c hc) (by rw [encL_app, e1, e2]; exact Nat.le_refl _)).1
  rw [encL_app, e1, e2] at h
  exact h
/-- How many runes a word has. -/
def wj : Bool → List Nat → Nat
  | _, [] => 0
  | b, c :: cs => if stB (if b then 0 else 1) (c : Int) = true then 0 else 1 + wj false cs
theorem wj_take : ∀ (b : Bool) (cs : List Nat), wj b (cs.take (wj b cs)) = wj b cs
  | _, [] => rfl
  | b, c :: cs => by
    rw [wj]
    by_cases h : stB (if b then 0 else 1) (c : Int) = true
    · rw [if_pos h]; rfl
    · rw [if_neg h, Nat.add_comm, List.take_succ_cons, wj, if_neg h, wj_take false cs, Nat.add_comm]
theorem st_pos (pos : Nat) (c : Int) : stB pos c = stB (if decide (pos = 0) then 0 else 1) c := by
  by_cases h : pos = 0
  · rw [decide_eq_true h, h]; rfl
  · rw [decide_eq_false h]
    unfold stB
    rw [if_neg h, if_neg (by simp)]
theorem wordF_runes (s : ByteArray) : ∀ (cs : List Nat) (f pos : Nat), (∀ c ∈ cs, okC c) → pos ≤ s.size → s.data.toList.drop pos = encL cs → s.size - pos < f → wordF s f pos = pos + (encL (cs.take (wj (decide (pos = 0)) cs))).length
  | cs, 0, pos, ho, hp, hd, hf => by omega
  | [], f + 1, pos, ho, hp, hd, hf => by
    have hl := congrArg List.length hd
    rw [List.length_drop, ← size_len] at hl
    have : pos = s.size := by
      have e : (encL []).length = 0 := rfl
      omega
    rw [wordF, if_neg (by omega), this]; rfl
  | c :: cs, f + 1, pos, ho, hp, hd, hf => by
    have hl := congrArg List.length hd
    have hp1 := enc_pos c
    rw [List.length_drop, ← size_len, encL, List.length_append] at hl
    have hlt : pos < s.size := by omega
    have hdec : dec (s.data.toList.drop pos) = (c, (encodeRune (c : Int)).length) := by rw [hd, encL]; exact dec_encode c (ho c (List.mem_cons_self ..)) _
    have e : Utf8.decode s pos = (c, (encodeRune (c : Int)).length) := by
      rw [decode_dec s pos hlt (by rw [hdec]; show (encodeRune (c : Int)).length ≠ 0; omega), hdec]
    rw [wordF, if_pos hlt, e, wj, ← st_pos]
    by_cases h : stB pos (c : Int) = true
    · rw [if_pos h, if_pos h]; rfl
    · rw [if_neg h, if_neg h]
      have ih := wordF_runes s cs f (pos + (encodeRune (c : Int)).length) (fun x hx => ho x (List.mem_cons_of_mem _ hx)) (by omega) (by
        rw [← List.drop_drop, hd, encL, List.drop_left]) (by omega)
      rw [decide_eq_false (show ¬ pos + (encodeRune (c : Int)).length = 0 by omega)] at ih
      rw [ih, Nat.add_comm 1, List.take_succ_cons, encL, List.length_append]
      omega
theorem wordX_runes (s : ByteArray) (cs : List Nat) (ho : ∀ c ∈ cs, okC c) (hd : s.data.toList = encL cs) : wordX s = (encL (cs.take (wj true cs))).length := by
  have h := wordF_runes s cs (s.size + 1) 0 ho (Nat.zero_le _) hd (by omega)
  rw [Nat.zero_add] at h
  exact h
theorem dd_ascii (n : Nat) : ∀ b ∈ decDigits n, b.toNat < 128 := by
  intro b hb
  have := (dd_all n) b hb
  omega
theorem hexd_lt (d : Int) (h0 : 0 ≤ d) (h1 : d < 16) : 0 ≤ hexd d ∧ hexd d < 128 := by
  have all : ∀ n : Fin 16, 0 ≤ hexd (n.val : Int) ∧ hexd (n.val : Int) < 128 := by decide +kernel
  have := all ⟨d.toNat, by omega⟩
  rwa [show ((⟨d.toNat, by omega⟩ : Fin 16).val : Int) = d by show ((d.toNat : Nat) : Int) = d; omega] at this
theorem hexL_ascii : ∀ (l : List UInt8), ∀ x ∈ hexL l, 0 ≤ x ∧ x < 128
  | [], x, h => by simp [hexL] at h
  | b :: l, x, h => by
    have hb := b.toNat_lt
    rw [hexL] at h
    rcases List.mem_cons.1 h with rfl | h
    · exact hexd_lt _ (by omega) (by omega)
    rcases List.mem_cons.1 h with rfl | h
    · exact hexd_lt _ (by omega) (by omega)
    · exact hexL_ascii l x h
theorem escB_valid (c : Nat) (ho : okC c) : validD (escB (c : Int)).data.toList = true := by
  by_cases h : isCtl (c : Int) = true
  · have hr := isCtl_lt _ h
    have all : ∀ n : Fin 128, isCtl (n.val : Int) = true → ∀ b ∈ (escB (n.val : Int)).data.toList, b.toNat < 128 := by decide +kernel
    exact valid_ascii _ (all ⟨c, by omega⟩ h)
  · rw [(escB_pl c ho h).1]
    have := (runes_enc [c] (encL [c]).length (fun x hx => by rw [List.mem_singleton.1 hx]; exact ho) (Nat.le_refl _)).2
    rw [validD_validF]
    have e : encL [c] = encodeRune (c : Int) := by rw [encL, encL, List.append_nil]
    rwa [e] at this
theorem escL_valid : ∀ cs : List Nat, (∀ c ∈ cs, okC c) → validD (escL cs) = true
  | [], h => rfl
  | c :: cs, h => by
    rw [escL]
    exact valid_app _ _ (escB_valid c (h c (List.mem_cons_self ..))) (escL_valid cs (fun x hx => h x (List.mem_cons_of_mem _ hx)))
theorem show_valid (a0 a1 : Int) (a2 : ByteArray) (h : okV a0 a1 a2) : validD (showL a0 a1 a2) = true := by
  unfold showL
  rcases h with ⟨rfl, h1, h2, h3⟩ | ⟨rfl, rfl, h1, h2⟩ | ⟨rfl, h1, h2⟩ | ⟨rfl, rfl, h1⟩
  · rw [if_pos rfl]
    by_cases c : a1 < 0
    · rw [itoa_neg' _ c]
      refine valid_ascii _ fun b hb => ?_
      rcases List.mem_cons.1 hb with rfl | hb
      · decide
      · exact dd_ascii _ b hb
    · rw [itoa_pos' _ c]; exact valid_ascii _ (dd_ascii _)
  · rw [if_neg (by omega), if_pos rfl]
    obtain ⟨v1, v2⟩ := valid_runes a2 h2
    exact valid_app [34] _ (by decide) (valid_app _ [34] (escL_valid _ v2) (by decide))
  · rw [if_neg (by omega), if_neg (by omega), if_pos rfl]
    rcases h1 with rfl | rfl
    · decide
    · decide
  · rw [if_neg (by omega), if_neg (by omega), if_neg (by omega)]
    refine valid_ascii _ fun b hb => ?_
    unfold Go.Lib.bytesOf at hb
    obtain ⟨x, hx, rfl⟩ := List.mem_map.1 hb
    have hr : 0 ≤ x ∧ x < 128 := by
      rcases List.mem_append.1 hx with hx | hx
      · rcases List.mem_append.1 hx with hx | hx
        · simp at hx; omega
        · exact hexL_ascii _ x hx
      · simp at hx; omega
    rw [UInt8.toNat_ofNat']
    omega
theorem ext_whole (p : ByteArray) : p.extract 0 p.size = p := baext (by rw [ext0D p p.size (Nat.le_refl _), List.take_of_length_le (by rw [← size_len]; exact Nat.le_refl _)])
/-- The token of a mark alone. -/
theorem marks_dec : ∀ p ∈ marks, (litX p).2.2.2.2 = 0 ∧ ¬ (litX p).2.2.2.1 > 0 ∧ wordX p = 0 ∧ markG p marks = p.size ∧ 0 < p.size := by decide +kernel
theorem marks_tok (p : ByteArray) (hp : p ∈ marks) : tokX p = (3, 0, p, 0, 0, ⟨#[]⟩, (p.size : Int), 0) := by
  obtain ⟨h1, h2, h3, h4, h5⟩ := marks_dec p hp
  unfold tokX
  rw [if_pos h1, if_neg h2, h3, if_neg (by omega), h4, if_pos h5, ext_whole]
theorem marks_ascii : ∀ p ∈ marks, ∀ b ∈ p.data.toList, b.toNat < 128 := by decide
theorem markG_mem (s : ByteArray) : ∀ y : List ByteArray, 0 < markG s y → ∃ p ∈ y, preB s p = true ∧ markG s y = p.size
  | [], h => by simp [markG] at h
  | p :: l, h => by
    rw [markG] at h ⊢
    by_cases c : preB s p = true
    · rw [if_pos c]; exact ⟨p, List.mem_cons_self .., c, rfl⟩
    · rw [if_neg c] at h ⊢
      obtain ⟨q, q1, q2, q3⟩ := markG_mem s l h
      exact ⟨q, List.mem_cons_of_mem _ q1, q2, q3⟩
theorem pre_take (s p : ByteArray) (h : preB s p = true) : p.size ≤ s.size ∧ s.extract 0 p.size = p := by
  have h1 := pre_size h
  refine ⟨h1, ?_⟩
  unfold preB at h
  rw [if_pos h1, beq_iff_eq, ByteArray.toList_eq, ByteArray.toList_eq] at h
  exact baext h
theorem st_let (c : Nat) (h : stB 0 (c : Int) = false) : c = 95 ∨ letB (c : Int) = true := by
  unfold stB at h
  rw [if_pos rfl] at h
  by_cases h1 : letB (c : Int) = true
  · exact .inr h1
  · rw [if_neg h1] at h
    by_cases h2 : (c : Int) = 95
    · exact .inl (by omega)
    · rw [if_neg h2] at h; cases h
theorem wordB_39 : wordB 39 = false := by decide
theorem wj_all : ∀ (b : Bool) (cs : List Nat), ∀ c ∈ cs.take (wj b cs), wordB (c : Int) = true
  | _, [], c, h => by simp [wj] at h
  | b, c :: cs, x, h => by
    rw [wj] at h
    by_cases d : stB (if b then 0 else 1) (c : Int) = true
    · rw [if_pos d] at h; simp at h
    · rw [if_neg d, Nat.add_comm, List.take_succ_cons] at h
      rcases List.mem_cons.1 h with rfl | h
      · have d' : stB (if b then 0 else 1) (x : Int) = false := by simpa using d
        cases b with
        | true =>
          rcases st_let x d' with e | e
          · rw [e]; decide
          · unfold wordB; rw [e]; rfl
        | false =>
          unfold stB at d'
          rw [if_neg (by simp)] at d'
          simpa using d'
      · exact wj_all false cs x h
/-- What stands behind a word does not go on. -/
theorem wj_stop : ∀ (b : Bool) (cs : List Nat), (∀ c ∈ cs, okC c) → 0 < wj b cs → goesB (encL (cs.drop (wj b cs))) = false
  | b, [], ho, h => by simp [wj] at h
  | b, c :: cs, ho, h => by
    rw [wj] at h ⊢
    by_cases d : stB (if b then 0 else 1) (c : Int) = true
    · rw [if_pos d] at h; omega
    · rw [if_neg d, Nat.add_comm, List.drop_succ_cons]
      by_cases z : 0 < wj false cs
      · exact wj_stop false cs (fun x hx => ho x (List.mem_cons_of_mem _ hx)) z
      · have z0 : wj false cs = 0 := by omega
        rw [z0, List.drop_zero]
        cases cs with
        | nil => exact goes_nil
        | cons e es =>
          rw [wj] at z0
          by_cases d2 : stB (if false then 0 else 1) (e : Int) = true
          · have hoe := ho e (List.mem_cons_of_mem _ (List.mem_cons_self ..))
            unfold goesB
            rw [encL, dec_encode e hoe]
            have hp := enc_pos e
            rw [if_neg (show ¬ (encodeRune (e : Int)).length = 0 by omega)]
            have d3 : stB 1 (e : Int) = true := d2
            unfold stB at d3
            rw [if_neg (by simp)] at d3
            simpa using d3
          · rw [if_neg d2] at z0; omega
theorem enc_ascii (c : Nat) (h : c < 128) : encodeRune (c : Int) = [c.toUInt8] := by
  unfold encodeRune
  rw [encodeRuneZ_one (by omega) (by omega)]
  rfl
theorem runes_byte (c : Nat) (ho : okC c) (cs : List Nat) (b : UInt8) (hb : b.toNat < 128) (r : List UInt8) (h : encL (c :: cs) = b :: r) : c = b.toNat ∧ r = encL cs := by
  rw [encL] at h
  have e : c = b.toNat := enc_byt0 c ho (encL cs) b.toNat hb (by rw [h]; rfl)
  refine ⟨e, ?_⟩
  rw [enc_ascii c (by omega), List.cons_append, List.nil_append] at h
  exact (List.cons.inj h).2.symm
theorem okC_ascii (n : Nat) (h : n < 128) : okC n := Or.inl (by omega)
/-- A text of ASCII at the front of runes. -/
theorem runes_pre : ∀ (w : List UInt8) (cs : List Nat) (r : List UInt8), (∀ b ∈ w, b.toNat < 128) → (∀ c ∈ cs, okC c) → encL cs = w ++ r → ∃ cs', cs = w.map (·.toNat) ++ cs' ∧ r = encL cs'
  | [], cs, r, hw, ho, h => ⟨cs, rfl, h.symm⟩
  | b :: w, cs, r, hw, ho, h => by
    cases cs with
    | nil => cases h
    | cons c cs =>
      obtain ⟨e1, e2⟩ := runes_byte c (ho c (List.mem_cons_self ..)) cs b (hw b (List.mem_cons_self ..)) (w ++ r) h
      obtain ⟨cs', f1, f2⟩ := runes_pre w cs r (fun x hx => hw x (List.mem_cons_of_mem _ hx)) (fun x hx => ho x (List.mem_cons_of_mem _ hx)) e2.symm
      exact ⟨cs', by rw [e1, f1]; rfl, f2⟩
theorem pre_split (s p : ByteArray) (h : preB s p = true) : s.data.toList = p.data.toList ++ s.data.toList.drop p.size := by
  obtain ⟨h1, h2⟩ := pre_take s p h
  have e := ext0D s p.size h1
  rw [h2] at e
  rw [e]
  exact (List.take_append_drop _ _).symm
/-- A word alone is no literal. -/
theorem word_lit (s p : ByteArray) (hs : s.size < 100000) (cs : List Nat) (ho : ∀ c ∈ cs, okC c) (hd : s.data.toList = encL cs) (hj : 0 < wj true cs) (hp : p.data.toList = encL (cs.take (wj true cs)))
    (hl0 : (litX s).2.2.2.2 = 0) (hl1 : ¬ (litX s).2.2.2.1 > 0) : litX p = (0, 0, ⟨#[]⟩, 0, 0) := by
  have hall := wj_all true cs
  have hstop := wj_stop true cs ho hj
  have hsp : s.data.toList = p.data.toList ++ encL (cs.drop (wj true cs)) := by rw [hd, hp, ← encL_app, List.take_append_drop]
  have hot : ∀ c ∈ cs.take (wj true cs), okC c := fun c hc => ho c (List.mem_of_mem_take hc)
  obtain ⟨c, cs', hcs⟩ : ∃ c cs', cs.take (wj true cs) = c :: cs' := by
    cases h : cs.take (wj true cs) with
    | nil => have := wj_take true cs; rw [h] at this; simp [wj] at this; omega
    | cons c cs' => exact ⟨c, cs', rfl⟩
  have hst : stB 0 (c : Int) = false := by
    have h2 := wj_take true cs
    rw [hcs] at h2
    rw [wj] at h2
    by_cases d : stB (if true then 0 else 1) (c : Int) = true
    · rw [if_pos d] at h2; omega
    · simpa using d
  have hoc : okC c := hot c (by rw [hcs]; exact List.mem_cons_self ..)
  have hlet : (c = 95 ∨ letB (c : Int) = true) := st_let c hst
  have hc1 : c ≠ 34 ∧ c ≠ 45 ∧ ¬ (48 ≤ c ∧ c ≤ 57) := by
    have all : ∀ n : Fin 128, (n.val = 95 ∨ letB (n.val : Int) = true) → n.val ≠ 34 ∧ n.val ≠ 45 ∧ ¬ (48 ≤ n.val ∧ n.val ≤ 57) := by decide +kernel
    by_cases h : c < 128
    · exact all ⟨c, h⟩ hlet
    · omega
  have hpz : p.size ≠ 0 := by
    intro e
    have := congrArg List.length hp
    rw [← size_len, e, hcs, encL, List.length_append] at this
    have := enc_pos c
    omega
  have hb0 : ∀ k, k < 128 → byt p.data.toList 0 = k → c = k := fun k hk e => by
    rw [hp, hcs, encL] at e
    exact enc_byt0 c hoc _ k hk e
  have hwas : ∀ (w : ByteArray) (n v : Int), preB p w = true → (∀ b ∈ w.data.toList, b.toNat < 128) → goesB (p.data.toList.drop w.size) = false → p.data.toList = w.data.toList := by
    intro w n v hpre hasc hgo
    have hs2 := pre_split p w hpre
    rw [hp] at hs2
    obtain ⟨cs2, e1, e2⟩ := runes_pre w.data.toList _ _ hasc hot hs2
    rw [← hp] at e2
    rw [e2] at hgo
    cases cs2 with
    | nil =>
      rw [pre_split p w hpre, e2]
      show w.data.toList ++ [] = _
      rw [List.append_nil]
    | cons e es =>
      have hm : e ∈ cs.take (wj true cs) := by rw [e1]; exact List.mem_append_right _ (List.mem_cons_self ..)
      have hw := hall e hm
      have hp2 := enc_pos e
      unfold goesB at hgo
      rw [encL, dec_encode e (hot e hm), if_neg (show ¬ (encodeRune (e : Int)).length = 0 by omega), hw] at hgo
      cases hgo
  apply lit_er
  unfold scanX
  rw [if_neg hpz, if_neg (fun e => hc1.1 (hb0 34 (by omega) e)), if_neg (fun e => ?_), if_neg (fun e => ?_)]
  · unfold boolS
    rw [if_neg (fun e => ?_), if_neg (fun e => ?_)]
    · have e1 := hwas wFalse 0 0 e.1 (by decide) e.2
      have hpre : preB s wFalse = true := by
        unfold preB
        have hsz : wFalse.size ≤ s.size := by rw [size_len s, hsp, List.length_append, e1]; exact Nat.le_add_right _ _
        rw [if_pos hsz, beq_iff_eq, ByteArray.toList_eq, ByteArray.toList_eq, ext0D _ _ hsz, hsp, e1]
        exact List.take_left' rfl
      have hg : goesB (s.data.toList.drop 5) = false := by
        rw [hsp, e1, show (5 : Nat) = wFalse.data.toList.length from rfl, List.drop_left]; exact hstop
      have hT : ¬ (preB s wTrue = true ∧ goesB (s.data.toList.drop 4) = false) := fun h => by
        obtain ⟨a1, a2⟩ := pre_take s wTrue h.1
        have := congrArg (fun q : ByteArray => byt q.data.toList 0) a2
        rw [ext0D _ _ a1, hsp, e1] at this
        exact absurd (show (102 : Nat) = 116 from this) (by decide)
      have hb : byt s.data.toList 0 = 102 := by rw [hsp, e1]; rfl
      have hsz0 : s.size ≠ 0 := by have := (pre_take s wFalse hpre).1; intro h0; rw [h0] at this; exact absurd this (by decide)
      have hsc : scanX s = (3, 0, ⟨#[]⟩, s.extract 5 s.size, 0) := by
        unfold scanX boolS
        rw [if_neg hsz0, if_neg (by omega), if_neg (fun h => by
          obtain ⟨a1, a2⟩ := pre_take s _ h
          have := congrArg (fun q : ByteArray => byt q.data.toList 0) a2
          rw [ext0D _ _ a1, hsp, e1] at this
          exact absurd (show (102 : Nat) = 120 from this) (by decide)), if_neg (by omega), if_neg hT, if_pos ⟨hpre, hg⟩]
      have hlit := lit_ok s 3 0 ⟨#[]⟩ _ hsc (by rw [extract_toList]; exact hg)
      rw [hlit] at hl1
      apply hl1
      show (s.size : Int) - _ > 0
      rw [ByteArray.size_extract]
      have := (pre_take s wFalse hpre).1
      have h5 : wFalse.size = 5 := rfl
      omega
    · have e1 := hwas wTrue 0 0 e.1 (by decide) e.2
      have hpre : preB s wTrue = true := by
        unfold preB
        have hsz : wTrue.size ≤ s.size := by rw [size_len s, hsp, List.length_append, e1]; exact Nat.le_add_right _ _
        rw [if_pos hsz, beq_iff_eq, ByteArray.toList_eq, ByteArray.toList_eq, ext0D _ _ hsz, hsp, e1]
        exact List.take_left' rfl
      have hg : goesB (s.data.toList.drop 4) = false := by
        rw [hsp, e1, show (4 : Nat) = wTrue.data.toList.length from rfl, List.drop_left]; exact hstop
      have hb : byt s.data.toList 0 = 116 := by rw [hsp, e1]; rfl
      have hsz0 : s.size ≠ 0 := by have := (pre_take s wTrue hpre).1; intro h0; rw [h0] at this; exact absurd this (by decide)
      have hsc : scanX s = (3, 1, ⟨#[]⟩, s.extract 4 s.size, 0) := by
        unfold scanX boolS
        rw [if_neg hsz0, if_neg (by omega), if_neg (fun h => by
          obtain ⟨a1, a2⟩ := pre_take s _ h
          have := congrArg (fun q : ByteArray => byt q.data.toList 0) a2
          rw [ext0D _ _ a1, hsp, e1] at this
          exact absurd (show (116 : Nat) = 120 from this) (by decide)), if_neg (by omega), if_pos ⟨hpre, hg⟩]
      have hlit := lit_ok s 3 1 ⟨#[]⟩ _ hsc (by rw [extract_toList]; exact hg)
      rw [hlit] at hl1
      apply hl1
      show (s.size : Int) - _ > 0
      rw [ByteArray.size_extract]
      have := (pre_take s wTrue hpre).1
      have h5 : wTrue.size = 4 := rfl
      omega
  · rcases e with e | ⟨e, f⟩
    · exact hc1.2.1 (hb0 45 (by omega) e)
    · have := hb0 (byt p.data.toList 0) (by omega) rfl
      omega
  · -- a byte behind an x
    have hs2 := pre_split p _ e
    rw [hp] at hs2
    obtain ⟨cs2, e1, e2⟩ := runes_pre _ _ _ (by decide) hot hs2
    have hm : 39 ∈ cs.take (wj true cs) := by rw [e1]; exact List.mem_append_left _ (by decide)
    have := hall 39 hm
    rw [show ((39 : Nat) : Int) = 39 from rfl, wordB_39] at this
    cases this
end Go.Proofs.YtoajlmmkkcelgaaDoor.U8
namespace Go.Proofs.YtoajlmmkkcelgaaDoor.U8
open Go.RowKit Go.Proofs.YtoajlmmkkcelgaaDoor.A Go.Proofs.YtoajlmmkkcelgaaDoorW.PrintWords Go.Proofs.YtoajlmmkkcelgaaDoorW.PrintLast Go.Lib
set_option linter.unusedVariables false
set_option linter.unusedSimpArgs false
/-- What a token's text is. -/
def showT (t : TokS) : List UInt8 := if t.f0 = 2 then showL t.f3.f0 t.f3.f1 t.f3.f2 else t.f2.data.toList
/-- The token at the front of a text: its bytes alone are the same token, and say it. -/
theorem tok_split (s : ByteArray) (hs : s.size < 100000) (hv : validD s.data.toList = true) (he : te s = 0) :
    validD (s.data.toList.take (tn s)) = true ∧ validD (s.data.toList.drop (tn s)) = true ∧ tokX (s.extract 0 (tn s)) = tokX s ∧ showT (tk s) = s.data.toList.take (tn s) ∧ ((tk s).f0 = 2 → okV (tk s).f3.f0 (tk s).f3.f1 (tk s).f3.f2) := by
  obtain ⟨n1, n2, n3⟩ := tn_ok s (by omega) he
  have hsuf : validD (s.data.toList.take (tn s)) = true → validD (s.data.toList.drop (tn s)) = true := fun h => valid_suffix _ _ h (by rw [List.take_append_drop]; exact hv)
  by_cases h0 : (litX s).2.2.2.2 = 0
  · by_cases h1 : (litX s).2.2.2.1 > 0
    · -- a literal
      have hsc : (scanX s).2.2.2.2 = 0 ∧ goesB (scanX s).2.2.2.1.data.toList = false := by
        unfold litX at h1
        by_cases c2 : (scanX s).2.2.2.2 = 2
        · rw [if_pos c2] at h1; exact absurd h1 (by decide)
        rw [if_neg c2] at h1
        by_cases c0 : (scanX s).2.2.2.2 = 0
        · rw [if_pos c0] at h1
          by_cases cg : goesB (scanX s).2.2.2.1.data.toList = true
          · rw [if_pos cg] at h1; exact absurd h1 (by decide)
          · exact ⟨c0, by simpa using cg⟩
        · rw [if_neg c0] at h1; exact absurd h1 (by decide)
      generalize hr : scanX s = R at hsc
      obtain ⟨K, N, S, rest, e⟩ := R
      obtain ⟨rfl, hg⟩ := hsc
      obtain ⟨hok, hb⟩ := scan_back s (by omega) K N S rest hr
      have hlit := lit_ok s K N S rest hr hg
      have hl := congrArg List.length hb
      rw [List.length_append, ← size_len, ← size_len] at hl
      have htok : tokX s = (2, 0, ⟨#[]⟩, K, N, S, (s.size : Int) - (rest.size : Int), 0) := by
        unfold tokX
        rw [if_pos h0, if_pos h1, hlit]
      have htn : tn s = (showL K N S).length := by unfold tn; rw [htok]; show ((s.size : Int) - (rest.size : Int)).toNat = _; omega
      have htake : s.data.toList.take (tn s) = showL K N S := by rw [htn, hb, List.take_left]
      have hval := show_valid K N S hok
      have htk : tk s = ⟨2, 0, ⟨#[]⟩, ⟨K, N, S⟩⟩ := by unfold tk; rw [htok]
      refine ⟨by rw [htake]; exact hval, hsuf (by rw [htake]; exact hval), ?_, by rw [htake, htk]; rfl, fun _ => by rw [htk]; exact hok⟩
      have hp := ext0D s (tn s) n2
      generalize s.extract 0 (tn s) = p at hp
      rw [htake] at hp
      have hpz : p.size = (showL K N S).length := by rw [size_len, hp]
      obtain ⟨j, j1, j2, j3⟩ := scan_fwd p (by omega) K N S hok [] rfl rfl (by rw [hp, List.append_nil])
      have hlp := lit_ok p K N S _ j3 (by rw [extract_toList, j1]; exact goes_nil)
      have hz : (p.extract j p.size).size = 0 := by rw [size_len, extract_toList, j1]; rfl
      rw [hz] at hlp
      rw [htok]
      unfold tokX
      rw [hlp]
      dsimp only
      rw [if_pos rfl, if_pos (by omega)]
      refine Prod.ext rfl (Prod.ext rfl (Prod.ext rfl (Prod.ext rfl (Prod.ext rfl (Prod.ext rfl (Prod.ext ?_ rfl))))))
      show (p.size : Int) - ((0 : Nat) : Int) = (s.size : Int) - (rest.size : Int)
      omega
    by_cases h2 : 0 < wordX s
    · -- a word
      obtain ⟨e1, ho⟩ := valid_runesL s.data.toList hv
      have hx := wordX_runes s (runesOf s.data.toList) ho e1.symm
      have htok : tokX s = (1, 0, s.extract 0 (wordX s), 0, 0, ⟨#[]⟩, (wordX s : Int), 0) := by
        unfold tokX
        rw [if_pos h0, if_neg h1, if_pos h2]
      have htn : tn s = wordX s := by unfold tn; rw [htok]; rfl
      have htk : tk s = ⟨1, 0, s.extract 0 (wordX s), ⟨0, 0, ⟨#[]⟩⟩⟩ := by unfold tk; rw [htok]
      generalize hcs : runesOf s.data.toList = cs at *
      have hj : 0 < wj true cs := by
        rcases Nat.eq_zero_or_pos (wj true cs) with h | h
        · rw [h] at hx; rw [hx] at h2; exact absurd h2 (Nat.lt_irrefl 0)
        · exact h
      have hsplit : s.data.toList = encL (cs.take (wj true cs)) ++ encL (cs.drop (wj true cs)) := by rw [← encL_app, List.take_append_drop, e1]
      have htake : s.data.toList.take (tn s) = encL (cs.take (wj true cs)) := by rw [htn, hx, hsplit, List.take_left]
      have hot : ∀ c ∈ cs.take (wj true cs), okC c := fun c hc => ho c (List.mem_of_mem_take hc)
      have hval : validD (encL (cs.take (wj true cs))) = true := by
        rw [validD_validF]
        exact (runes_enc _ _ hot (Nat.le_refl _)).2
      have hp := ext0D s (tn s) n2
      refine ⟨by rw [htake]; exact hval, hsuf (by rw [htake]; exact hval), ?_, by rw [htk, ← htn]; exact hp, fun h => by rw [htk] at h; exact absurd (show (1 : Int) = 2 from h) (by decide)⟩
      rw [htake] at hp
      rw [htok, ← htn]
      generalize s.extract 0 (tn s) = p at hp
      have hlit := word_lit s p hs cs ho e1.symm hj hp h0 h1
      have hwp := wordX_runes p _ hot hp
      rw [wj_take, List.take_take, Nat.min_self] at hwp
      have hpz : wordX p = p.size := by rw [hwp, size_len, hp]
      have hps : p.size = tn s := by rw [← hpz, hwp, htn, hx]
      unfold tokX
      rw [hlit]
      dsimp only
      rw [if_pos rfl, if_neg (by decide), if_pos (by omega), hpz, ext_whole, hps]
    by_cases h3 : 0 < markG s marks
    · -- a mark
      obtain ⟨q, q1, q2, q3⟩ := markG_mem s marks h3
      obtain ⟨p1, p2⟩ := pre_take s q q2
      have htok : tokX s = (3, 0, s.extract 0 (markG s marks), 0, 0, ⟨#[]⟩, (markG s marks : Int), 0) := by
        unfold tokX
        rw [if_pos h0, if_neg h1, if_neg h2, if_pos h3]
      have htn : tn s = q.size := by unfold tn; rw [htok, q3]; rfl
      have htk : tk s = ⟨3, 0, q, ⟨0, 0, ⟨#[]⟩⟩⟩ := by unfold tk; rw [htok, q3, p2]
      have hp := ext0D s (tn s) n2
      rw [htn, p2] at hp
      have hval : validD q.data.toList = true := valid_ascii _ (marks_ascii q q1)
      refine ⟨by rw [htn, ← hp]; exact hval, hsuf (by rw [htn, ← hp]; exact hval), ?_, by rw [htk, htn, ← hp]; rfl, fun h => by rw [htk] at h; exact absurd (show (3 : Int) = 2 from h) (by decide)⟩
      rw [htn, p2, htok, q3, p2]
      exact marks_tok q q1
    · have : tokX s = (0, 0, ⟨#[]⟩, 0, 0, ⟨#[]⟩, 0, 3) := by
        unfold tokX
        rw [if_pos h0, if_neg h1, if_neg h2, if_neg h3]
      unfold te at he
      rw [this] at he
      exact absurd he (by decide)
  · have : tokX s = (0, 0, ⟨#[]⟩, 0, 0, ⟨#[]⟩, 0, (litX s).2.2.2.2) := by
      unfold tokX
      rw [if_neg h0]
    unfold te at he
    rw [this] at he
    exact absurd he h0
end Go.Proofs.YtoajlmmkkcelgaaDoor.U8
namespace Go.Proofs.YtoajlmmkkcelgaaDoor.U8
open Go.RowKit Go.Proofs.YtoajlmmkkcelgaaDoor.A Go.Proofs.YtoajlmmkkcelgaaDoorW.PrintWords Go.Proofs.YtoajlmmkkcelgaaDoorW.PrintLast Go.Lib
set_option linter.unusedVariables false
set_option linter.unusedSimpArgs false
theorem count_runes (s : ByteArray) : ∀ (cs : List Nat) (f pos : Nat), (∀ c ∈ cs, okC c) → pos ≤ s.size → s.data.toList.drop pos = encL cs → s.size - pos ≤ f → Lib.runeCountFrom s f pos = cs.length
  | [], f, pos, ho, hp, hd, hf => by
    have hl := congrArg List.length hd
    rw [List.length_drop, ← size_len] at hl
    have e : (encL []).length = 0 := rfl
    exact Lib.runeCountFrom_end s f pos (by omega)
  | c :: cs, f, pos, ho, hp, hd, hf => by
    have hl := congrArg List.length hd
    have hp1 := enc_pos c
    rw [List.length_drop, ← size_len, encL, List.length_append] at hl
    have hlt : pos < s.size := by omega
    obtain ⟨f, rfl⟩ : ∃ q, f = q + 1 := ⟨f - 1, by omega⟩
    have hdec : dec (s.data.toList.drop pos) = (c, (encodeRune (c : Int)).length) := by rw [hd, encL]; exact dec_encode c (ho c (List.mem_cons_self ..)) _
    have e : Utf8.decode s pos = (c, (encodeRune (c : Int)).length) := by
      rw [decode_dec s pos hlt (by rw [hdec]; show (encodeRune (c : Int)).length ≠ 0; omega), hdec]
    rw [Lib.runeCountFrom, if_pos hlt, e, List.length_cons]
    rw [count_runes s cs f (pos + (encodeRune (c : Int)).length) (fun x hx => ho x (List.mem_cons_of_mem _ hx)) (by omega) (by rw [← List.drop_drop, hd, encL, List.drop_left]) (by omega)]
    omega
theorem count_ev (s : ByteArray) (hv : validD s.data.toList = true) : Lib.runeCount s = (runesOf s.data.toList).length := by
  obtain ⟨e1, o1⟩ := valid_runesL _ hv
  exact count_runes s _ s.size 0 o1 (Nat.zero_le _) e1.symm (by omega)
theorem runes_pos (l : List UInt8) (hv : validD l = true) (h : l ≠ []) : 1 ≤ (runesOf l).length := by
  obtain ⟨e1, o1⟩ := valid_runesL _ hv
  cases hr : runesOf l with
  | nil => rw [hr] at e1; exact absurd e1.symm h
  | cons a b => rw [List.length_cons]; omega
/-- Places that rise from a on, below b. -/
def rises : Int → Int → List TokS → Prop
  | a, b, [] => a ≤ b
  | a, b, t :: M => a ≤ t.f1 ∧ rises (t.f1 + 1) b M
def GoodT (t : TokS) : Prop := ∃ p : ByteArray, tokX p = (t.f0, 0, t.f2, t.f3.f0, t.f3.f1, t.f3.f2, (p.size : Int), 0) ∧ p.size ≠ 0 ∧ validD p.data.toList = true ∧ blk (byt p.data.toList 0) = false ∧ showT t = p.data.toList ∧ (t.f0 = 2 → okV t.f3.f0 t.f3.f1 t.f3.f2)
def sizes : List TokS → Nat
  | [] => 0
  | t :: M => (showT t).length + sizes M
theorem rises_le : ∀ (M : List TokS) (a a' b : Int), a' ≤ a → rises a b M → rises a' b M
  | [], a, a', b, h, hr => Int.le_trans h hr
  | t :: M, a, a', b, h, hr => ⟨Int.le_trans h hr.1, hr.2⟩
theorem lex_pos (k : Nat) (hk : 1000000 ≤ k) : ∀ (f : Nat) (s : ByteArray) (l : List TokS) (a : Nat), s.size < f → a + s.size < 100000 → l.length ≤ 300 → validD s.data.toList = true →
    ∃ L at' e, lex_Lex.l0 (k + f) s l (a : Int) = some (L, at', e) ∧ (e ≠ 0 → L = [] ∧ 0 ≤ at' ∧ at' ≤ ((a + s.size : Nat) : Int)) ∧
      (e = 0 → at' = ((a + (runesOf s.data.toList).length : Nat) : Int) ∧ ∃ M, L = l ++ M ∧ L.length ≤ 300 ∧ rises a at' M ∧ (∀ t ∈ M, GoodT t) ∧ sizes M ≤ s.size)
  | 0, s, l, a, h, hs, hl, hv => by omega
  | f + 1, s, l, a, h, hs, hl, hv => by
    rw [show k + (f + 1) = k + f + 1 by omega, lex_Lex.l0]
    by_cases hz : s.size = 0
    · have e0 : s.data.toList = [] := List.eq_nil_of_length_eq_zero (by rw [← size_len]; exact hz)
      rw [if_pos ((toList_nil s).2 hz)]
      refine ⟨l, a, 0, rfl, fun h => absurd rfl h, fun _ => ?_⟩
      rw [e0]
      exact ⟨by simp [runesOf, runesF], [], by rw [List.append_nil], hl, Int.le_refl _, fun t ht => by simp at ht, Nat.zero_le _⟩
    rw [if_neg (fun e => hz ((toList_nil s).1 e)), if_pos (by omega), b0_at, blank_q, Option.bind_some]
    by_cases hb : blk (byt s.data.toList 0) = true
    · have e1 := ext_size s 1 (by omega)
      have hbt : byt s.data.toList 0 < 128 := by
        unfold blk at hb
        simp only [Bool.or_eq_true, beq_iff_eq] at hb
        omega
      have hsplit : s.data.toList = s.data.toList.take 1 ++ s.data.toList.drop 1 := (List.take_append_drop 1 _).symm
      have h1 : validD (s.data.toList.take 1) = true := by
        refine valid_ascii _ fun b hbm => ?_
        cases hd : s.data.toList with
        | nil => rw [hd] at hbm; simp at hbm
        | cons c t =>
          rw [hd] at hbm hbt
          simp at hbm
          rw [hbm]; exact hbt
      have h2 : validD (s.data.toList.drop 1) = true := valid_suffix _ _ h1 (by rw [← hsplit]; exact hv)
      have hr1 : (runesOf s.data.toList).length = 1 + (runesOf (s.data.toList.drop 1)).length := by
        have e := runes_app _ _ h1 h2
        rw [← hsplit] at e
        rw [e, List.length_append]
        have : (runesOf (s.data.toList.take 1)).length = 1 := by
          cases hd : s.data.toList with
          | nil => have := congrArg List.length hd; rw [← size_len, List.length_nil] at this; exact absurd this hz
          | cons c t =>
            rw [hd] at hbt
            have hcc : c.toNat < 128 := hbt
            have e3 : encL [c.toNat] = [c] := by
              rw [encL, encL, List.append_nil, enc_ascii _ hcc]
              simp
            have := (runes_enc [c.toNat] 1 (fun x hx => by rw [List.mem_singleton.1 hx]; exact okC_ascii _ hcc) (by rw [e3]; exact Nat.le_refl _)).1
            rw [e3] at this
            show (runesF 1 [c]).length = 1
            rw [this]; rfl
        rw [this]
      rw [if_pos hb, if_pos (by omega), show wrap64 ((a : Int) + 1) = ((a + 1 : Nat) : Int) from by rw [w64 (by omega) (by omega)]; omega]
      obtain ⟨L, at', e, i1, i2, i3⟩ := lex_pos k hk f (s.extract 1 s.size) l (a + 1) (by rw [e1]; omega) (by rw [e1]; omega) hl (by rw [extract_toList]; exact h2)
      refine ⟨L, at', e, i1, fun he => ?_, fun he => ?_⟩
      · obtain ⟨j1, j2, j3⟩ := i2 he
        clear i2 i3
        rw [e1] at j3
        exact ⟨j1, j2, by omega⟩
      · obtain ⟨j1, M, j2, j3, j4, j5, j6⟩ := i3 he
        clear i2 i3
        rw [extract_toList] at j1
        rw [e1] at j6
        exact ⟨by rw [j1, hr1]; omega, M, j2, j3, rises_le M _ _ _ (by omega) j4, j5, by omega⟩
    rw [if_neg hb, tok_x s (by omega) (k + f) (by omega), Option.bind_some]
    by_cases he : te s = 0
    · obtain ⟨n1, n2, n3⟩ := tn_ok s (by omega) he
      obtain ⟨s1, s2, s3, s4, s5⟩ := tok_split s (by omega) hv he
      have he' := he
      unfold te at he'
      rw [if_pos he']
      by_cases h3 : l.length = 300
      · rw [if_pos (by omega)]
        exact ⟨[], a, 2, rfl, fun _ => ⟨rfl, by omega, by omega⟩, fun e => absurd e (by decide)⟩
      have hpd := ext0D s (tn s) n2
      have hcnt : Lib.runeCount (s.extract 0 (tn s)) = (runesOf (s.data.toList.take (tn s))).length := by rw [count_ev _ (by rw [hpd]; exact s1), hpd]
      have hcle : Lib.runeCount (s.extract 0 (tn s)) ≤ tn s := by
        have := Lib.runeCount_le (s.extract 0 (tn s))
        rw [ByteArray.size_extract] at this
        omega
      have hcp : 1 ≤ (runesOf (s.data.toList.take (tn s))).length := runes_pos _ s1 (fun e => by
        have := congrArg List.length e
        rw [List.length_take, ← size_len, List.length_nil] at this
        omega)
      have hrs : (runesOf s.data.toList).length = (runesOf (s.data.toList.take (tn s))).length + (runesOf (s.data.toList.drop (tn s))).length := by
        have e := runes_app _ _ s1 s2
        rw [List.take_append_drop] at e
        rw [e, List.length_append]
      have e1 := ext_size s (tn s) n2
      have hrc : utf8_RuneCountInString.f (s.extract 0 (tn s)) = some (Lib.runeCount (s.extract 0 (tn s)) : Int) := by
        unfold utf8_RuneCountInString.f
        rw [if_pos (by rw [ByteArray.size_extract]; omega)]
      rw [if_neg (by omega), if_pos (by omega), n3, if_pos (by omega), if_pos (by omega), Int.toNat_natCast, hrc, Option.bind_some, show wrap64 ((a : Int) + (Lib.runeCount (s.extract 0 (tn s)) : Int)) = ((a + Lib.runeCount (s.extract 0 (tn s)) : Nat) : Int) from by rw [w64 (by omega) (by omega)]; omega]
      obtain ⟨L, at', e, i1, i2, i3⟩ := lex_pos k hk f (s.extract (tn s) s.size) (l ++ [(⟨(tokX s).1, a, (tokX s).2.2.1, ⟨(tokX s).2.2.2.1, (tokX s).2.2.2.2.1, (tokX s).2.2.2.2.2.1⟩⟩ : TokS)]) (a + Lib.runeCount (s.extract 0 (tn s))) (by rw [e1]; omega) (by rw [e1]; omega) (by rw [List.length_append]; show l.length + 1 ≤ 300; omega) (by rw [extract_toList]; exact s2)
      refine ⟨L, at', e, i1, fun hne => ?_, fun h0 => ?_⟩
      · obtain ⟨j1, j2, j3⟩ := i2 hne
        clear i2 i3
        rw [e1] at j3
        exact ⟨j1, j2, by omega⟩
      · obtain ⟨j1, M, j2, j3, j4, j5, j6⟩ := i3 h0
        clear i2 i3
        rw [extract_toList] at j1
        rw [e1] at j6
        rw [List.append_assoc] at j2
        refine ⟨by rw [j1, hrs, hcnt]; omega, _, j2, j3, ⟨Int.le_refl _, rises_le M _ _ _ (show (a : Int) + 1 ≤ ((a + Lib.runeCount (s.extract 0 (tn s)) : Nat) : Int) by omega) j4⟩, fun t ht => ?_, ?_⟩
        · rcases List.mem_cons.1 ht with rfl | ht
          · refine ⟨s.extract 0 (tn s), ?_, ?_, by rw [hpd]; exact s1, ?_, ?_, s5⟩
            · rw [s3]
              unfold te at he
              refine Prod.ext rfl (Prod.ext ?_ (Prod.ext rfl (Prod.ext rfl (Prod.ext rfl (Prod.ext rfl (Prod.ext ?_ he))))))
              · show (tokX s).2.1 = 0
                unfold tokX
                repeat' split
                all_goals rfl
              · show (tokX s).2.2.2.2.2.2.1 = ((s.extract 0 (tn s)).size : Int)
                rw [n3, ByteArray.size_extract]; omega
            · rw [ByteArray.size_extract]; omega
            · rw [hpd]
              have : byt (s.data.toList.take (tn s)) 0 = byt s.data.toList 0 := by
                cases hd : s.data.toList with
                | nil => rw [List.take_nil]
                | cons c t =>
                  obtain ⟨q, hq⟩ : ∃ q, tn s = q + 1 := ⟨tn s - 1, by omega⟩
                  rw [hq, List.take_succ_cons]; rfl
              rw [this]
              simpa using hb
            · rw [hpd]; exact s4
          · exact j5 t ht
        · show (showT _).length + sizes M ≤ s.size
          have : showT (⟨(tokX s).1, a, (tokX s).2.2.1, ⟨(tokX s).2.2.2.1, (tokX s).2.2.2.2.1, (tokX s).2.2.2.2.2.1⟩⟩ : TokS) = s.data.toList.take (tn s) := s4
          rw [this, List.length_take, ← size_len]
          omega
    · have he' := he
      unfold te at he'
      rw [if_neg he']
      exact ⟨[], a, _, rfl, fun _ => ⟨rfl, by omega, by omega⟩, fun e => absurd e he'⟩
end Go.Proofs.YtoajlmmkkcelgaaDoor.U8
/- The plain side of the law LexBack: what is shown is cut into the same tokens; their places rise, and lie within the text. No premise. -/
namespace Go.Proofs.YtoajlmmkkcelgaaDoor.Pure
open Go.RowKit Go.Proofs.YtoajlmmkkcelgaaDoor.A Go.Proofs.YtoajlmmkkcelgaaDoor.U8 Go.Proofs.YtoajlmmkkcelgaaDoorW.PrintWords Go.Proofs.YtoajlmmkkcelgaaDoorW.PrintLast Go.Lib
set_option linter.unusedVariables false
set_option linter.unusedSimpArgs false
/-- A token's text alone. -/
theorem good_alone (t : TokA) (p : ByteArray) (hp : p.size < 90000) (h1 : tokX p = (t.f0, 0, t.f2, t.f3.f0, t.f3.f1, t.f3.f2, (p.size : Int), 0)) (h2 : p.size ≠ 0) (h4 : blk (byt p.data.toList 0) = false) : lexT (p.size + 1) p [] = ([strip t], 0) := by
  have e1 : te p = 0 := by unfold te; rw [h1]
  have e2 : tn p = p.size := by unfold tn; rw [h1]; rfl
  have e3 : tk p = strip t := by unfold tk; rw [h1]; rfl
  rw [lexT, if_neg h2, h4, if_neg (by decide), if_pos e1, if_neg (by simp), e2, e3]
  obtain ⟨q, hq⟩ : ∃ q, p.size = q + 1 := ⟨p.size - 1, by omega⟩
  have hz : (p.extract p.size p.size).size = 0 := by rw [ByteArray.size_extract]; omega
  rw [show lexT p.size = lexT (q + 1) by rw [hq], lexT, if_pos hz]
  rfl
theorem intercalate2 (sep x y : List UInt8) (r : List (List UInt8)) : sep.intercalate (x :: y :: r) = x ++ (sep ++ sep.intercalate (y :: r)) := by
  rw [List.intercalate_cons_cons]
  simp
theorem join_lex : ∀ M : List TokA, (∀ t ∈ M, GoodT t) → M.length ≤ 300 → sizes M ≤ 2000 →
    lexT ((List.intercalate [32] (M.map showT)).length + 1) ⟨(List.intercalate [32] (M.map showT)).toArray⟩ [] = (M.map strip, 0) ∧ validD (List.intercalate [32] (M.map showT)) = true ∧ (List.intercalate [32] (M.map showT)).length ≤ sizes M + M.length
  | [], hg, hl, hs => ⟨rfl, rfl, Nat.zero_le _⟩
  | [t], hg, hl, hs => by
    obtain ⟨p, p1, p2, p3, p4, p5, p6⟩ := hg t (List.mem_cons_self ..)
    have e : List.intercalate [32] ([t].map showT) = p.data.toList := by
      rw [← p5]; simp [List.intercalate]
    have hz : sizes [t] = p.size := by show (showT t).length + 0 = _; rw [p5, ← size_len]; rfl
    rw [e]
    refine ⟨?_, p3, by rw [← size_len, hz]; omega⟩
    rw [← size_len]
    exact good_alone t p (by omega) p1 p2 p4
  | t :: u :: M, hg, hl, hs => by
    obtain ⟨p, p1, p2, p3, p4, p5, p6⟩ := hg t (List.mem_cons_self ..)
    have hz : sizes (t :: u :: M) = p.size + sizes (u :: M) := by show (showT t).length + _ = _; rw [p5, ← size_len]
    rw [List.length_cons] at hl
    obtain ⟨i1, i2, i3⟩ := join_lex (u :: M) (fun x hx => hg x (List.mem_cons_of_mem _ hx)) (by omega) (by omega)
    have e : List.intercalate [32] ((t :: u :: M).map showT) = p.data.toList ++ 32 :: ([] ++ List.intercalate [32] ((u :: M).map showT)) := by
      rw [List.map_cons, List.map_cons, intercalate2, p5]; rfl
    generalize hj : List.intercalate [32] ((u :: M).map showT) = J at i1 i2 i3 e
    rw [e]
    have hlen : (p.data.toList ++ 32 :: ([] ++ J)).length = p.size + 1 + J.length := by rw [List.length_append, List.length_cons, List.nil_append, ← size_len]; omega
    refine ⟨?_, valid_app _ _ p3 (valid_app [32] J (by decide) i2), by rw [hlen, hz, List.length_cons]; omega⟩
    have hc := lexT_cat p ⟨J.toArray⟩ ⟨(p.data.toList ++ 32 :: ([] ++ J)).toArray⟩ [] [strip t] ((u :: M).map strip) (fun x hx => by simp at hx) (by simp) (by omega) (by rw [size_len]; show J.length < _; omega) rfl (good_alone t p (by omega) p1 p2 p4) (by rw [size_len]; exact i1) (by rw [List.length_map, List.length_cons, List.length_nil]; omega)
    rw [size_len] at hc
    exact hc
theorem show_l0 (k : Nat) (hk : 1000 ≤ k) (M : List TokA) (hM : M.length ≤ 300) (hg : ∀ t ∈ M, GoodT t) : ∀ (m i : Nat) (acc : List ByteArray), i + m = M.length → acc.length = i →
    lex_Show.l0 (k + m + 1) acc M (M.length : Int) (i : Int) = strings_Join.f (acc ++ (M.drop i).map fun t => ⟨(showT t).toArray⟩) (⟨#[32]⟩ : ByteArray) := by
  intro m
  induction m with
  | zero =>
    intro i acc hi ha
    rw [lex_Show.l0, if_neg (by omega), List.drop_of_length_le (by omega), List.map_nil, List.append_nil]
    cases strings_Join.f acc (⟨#[32]⟩ : ByteArray) <;> rfl
  | succ m ih =>
    intro i acc hi ha
    have hlt : i < M.length := by omega
    have hg2 : rd_T68 M (i : Int) = M[i] := by
      unfold rd_T68
      rw [Int.toNat_natCast, List.getD_eq_getElem?_getD, List.getElem?_eq_getElem hlt]; rfl
    have w1 : wrap64 ((i : Int) + 1) = ((i + 1 : Nat) : Int) := by rw [w64 (by omega) (by omega)]; omega
    have i1 : (i : Int) < (M.length : Int) := by omega
    have i2 : (0 : Int) ≤ (i : Int) := by omega
    have i3 : acc.length < 8796093022208 := by omega
    obtain ⟨p, p1, p2, p3, p4, p5, p6⟩ := hg M[i] (List.getElem_mem hlt)
    have e : (M.drop i).map (fun t => (⟨(showT t).toArray⟩ : ByteArray)) = ⟨(showT M[i]).toArray⟩ :: (M.drop (i + 1)).map fun t => ⟨(showT t).toArray⟩ := by
      rw [List.drop_eq_getElem_cons hlt, List.map_cons]
    rw [show k + (m + 1) + 1 = (k + m + 1) + 1 by omega, lex_Show.l0, if_pos i1, if_pos i2, if_pos i1, hg2, e]
    by_cases h2 : M[i].f0 = 2
    · have hsh : showT M[i] = showL M[i].f3.f0 M[i].f3.f1 M[i].f3.f2 := by unfold showT; rw [if_pos h2]
      rw [if_pos h2, show_q _ _ _ (p6 h2) (k + m + 1) (by omega), Option.bind_some, if_pos i3, w1, ih (i + 1) _ (by omega) (by rw [List.length_append]; show acc.length + 1 = _; omega), List.append_assoc, hsh]
      rfl
    · have hsh : (⟨(showT M[i]).toArray⟩ : ByteArray) = M[i].f2 := by
        unfold showT
        rw [if_neg h2]
      rw [if_neg h2, if_pos i3, w1, ih (i + 1) _ (by omega) (by rw [List.length_append]; show acc.length + 1 = _; omega), List.append_assoc, hsh]
      rfl
theorem show_ev (k : Nat) (hk : 2000 ≤ k) (M : List TokA) (hM : M.length ≤ 300) (hg : ∀ t ∈ M, GoodT t) (hs : sizes M ≤ 2000) : lex_Show.f k M = some ⟨(List.intercalate [32] (M.map showT)).toArray⟩ := by
  obtain ⟨i1, i2, i3⟩ := join_lex M hg hM hs
  unfold lex_Show.f
  have h := show_l0 (k - M.length - 1) (by omega) M hM hg M.length 0 [] (by omega) rfl
  rw [show k - M.length - 1 + M.length + 1 = k by omega] at h
  refine Eq.trans h ?_
  rw [List.nil_append, List.drop_zero]
  unfold strings_Join.f
  have e : (M.map (fun t => (⟨(showT t).toArray⟩ : ByteArray))).map (fun x => x.data.toList) = M.map showT := by rw [List.map_map]; rfl
  have hj : Lib.join ((M.map (fun t => (⟨(showT t).toArray⟩ : ByteArray))).map (·.data.toList)) (⟨#[32]⟩ : ByteArray).data.toList = List.intercalate [32] (M.map showT) := by
    rw [e]; rfl
  rw [hj, if_pos ⟨by rw [List.length_map]; omega, by omega⟩]
theorem rises_get : ∀ (M : List TokA) (a b : Int) (i : Nat) (h : i < M.length), rises a b M → a ≤ M[i].f1 ∧ M[i].f1 < b ∧ ∀ (h2 : 0 < i), M[i - 1].f1 < M[i].f1
  | [], a, b, i, h, hr => by simp at h
  | t :: M, a, b, 0, h, hr => by
    have hle : ∀ (M : List TokA) (a b : Int), rises a b M → a ≤ b := by
      intro M
      induction M with
      | nil => intro a b h; exact h
      | cons x M ih => intro a b h; have := ih _ _ h.2; have := h.1; omega
    have h2 := hle M _ _ hr.2
    have h1 := hr.1
    exact ⟨h1, by show t.f1 < b; omega, fun h => absurd h (Nat.lt_irrefl _)⟩
  | t :: M, a, b, i + 1, h, hr => by
    have h1 := hr.1
    have hl : i < M.length := by simpa using h
    obtain ⟨j1, j2, j3⟩ := rises_get M _ b i hl hr.2
    refine ⟨by show a ≤ (M[i]'hl).f1; omega, j2, fun _ => ?_⟩
    cases i with
    | zero => show t.f1 < (M[0]'hl).f1; omega
    | succ i => exact j3 (Nat.succ_pos _)
theorem back_l0 (s : ByteArray) (hs : s.size ≤ 2000) (at' : Int) (M : List TokA) (hM : M.length ≤ 300) (hg : ∀ t ∈ M, GoodT t) (hz : sizes M ≤ 2000) (hr : rises 0 at' M) (ha : at' = ((runesOf s.data.toList).length : Int)) (k : Nat) (hk : 1500000 ≤ k) :
    ∀ (m i : Nat), i + m = M.length → caduceuslaw07_LexBack.l0 (k + m + 1) s M at' (i : Int) = some true := by
  intro m
  induction m with
  | zero =>
    intro i hi
    have hsh := show_ev k (by omega) M hM hg hz
    obtain ⟨i1, i2, i3⟩ := join_lex M hg hM hz
    generalize hJ : List.intercalate [32] (M.map showT) = J at hsh i1 i2 i3
    have hJs : (⟨J.toArray⟩ : ByteArray).size = J.length := by rw [size_len]
    obtain ⟨L, atL, e, l1, l2, l3, l4⟩ := lex_ev ⟨J.toArray⟩ (by rw [hJs]; omega) k (by omega)
    obtain ⟨e0, eL⟩ := l4 _ i2 (by rw [hJs]; exact i1)
    subst e0
    have aw := awakeL_ev k (by omega)
    have kk : k = (k - 1001) + 1001 := by omega
    have hrn := runes_ev s (by omega) k (by omega)
    rw [caduceuslaw07_LexBack.l0, if_neg (by omega), hsh, Option.bind_some, l1, Option.bind_some, aw, Option.bind_some, if_pos rfl]
    dsimp only
    rw [if_pos rfl, hrn, kk, refs_q _ L (by omega), Option.bind_some, refs_q _ M (by omega), Option.bind_some, same_q _ _ _ (by rw [List.length_map]; omega) (bare_map _ _ eL), Option.bind_some, if_pos rfl, Option.bind_some, ha]
    unfold ints
    rw [List.length_map, beq_self_eq_true]
  | succ m ih =>
    intro i hi
    have hlt : i < M.length := by omega
    have hgt : ∀ (j : Nat) (hj : j < M.length), rd_T68 M (j : Int) = M[j] := fun j hj => by
      unfold rd_T68
      rw [Int.toNat_natCast, List.getD_eq_getElem?_getD, List.getElem?_eq_getElem hj]; rfl
    obtain ⟨r1, r2, r3⟩ := rises_get M 0 at' i hlt hr
    have ihs := ih (i + 1) (by omega)
    rw [show k + (m + 1) + 1 = (k + m + 1) + 1 by omega, caduceuslaw07_LexBack.l0, if_pos (by omega), if_pos (by omega), hgt i hlt, if_neg (by omega), if_neg (by omega), show wrap64 ((i : Int) + 1) = ((i + 1 : Nat) : Int) from by rw [w64 (by omega) (by omega)]; omega]
    by_cases h0 : 0 < i
    · rw [if_pos (by omega), show wrap64 ((i : Int) - 1) = ((i - 1 : Nat) : Int) from by rw [w64 (by omega) (by omega)]; omega, if_pos (by omega), if_pos (by omega), hgt (i - 1) (by omega), if_neg (by have := r3 h0; omega)]
      exact ihs
    · rw [if_neg (by omega)]
      exact ihs
theorem LexBack (a0 : ByteArray) (w0 : a0.size ≤ 140737488351232) : ∃ k, caduceuslaw07_LexBack.f k a0 = some true := by
  refine ⟨2000000, ?_⟩
  have aw := awakeL_ev 2000000 (by omega)
  unfold caduceuslaw07_LexBack.f
  by_cases h : (a0.size : Int) > 2000
  · rw [if_pos h, aw]; rfl
  rw [if_neg h]
  have hv : utf8_ValidString.f a0 = some (validD a0.data.toList) := by
    unfold utf8_ValidString.f
    rw [if_pos (by omega)]
  unfold lex_Lex.f
  rw [hv, Option.bind_some]
  by_cases hval : validD a0.data.toList = true
  · rw [if_pos hval]
    obtain ⟨L, at', e, h1, h2, h3⟩ := lex_pos (2000000 - (a0.size + 1)) (by omega) (a0.size + 1) a0 [] 0 (by omega) (by omega) (by simp) hval
    rw [show 2000000 - (a0.size + 1) + (a0.size + 1) = 2000000 by omega] at h1
    rw [show lex_Lex.l0 2000000 a0 [] 0 = _ from h1, Option.bind_some]
    dsimp only
    by_cases he : e = 0
    · obtain ⟨q1, M, q2, q3, q4, q5, q6⟩ := h3 he
      clear h2 h3
      rw [List.nil_append] at q2
      subst q2
      rw [if_pos he]
      have := back_l0 a0 (by omega) at' L q3 q5 (by omega) q4 (by rw [q1, Nat.zero_add]) (2000000 - L.length - 1) (by omega) L.length 0 (by omega)
      rw [show 2000000 - L.length - 1 + L.length + 1 = 2000000 by omega] at this
      exact this
    · obtain ⟨q1, q2, q3⟩ := h2 he
      clear h2 h3
      rw [if_neg he, aw, Option.bind_some, if_pos rfl, if_pos (by rw [q1]; rfl), if_pos q2]
      rw [decide_eq_true (by omega)]
  · rw [if_neg hval, Option.bind_some]
    dsimp only
    rw [if_neg (by decide), aw, Option.bind_some, if_pos rfl, if_pos (by rfl), if_pos (by decide), decide_eq_true (by omega)]
end Go.Proofs.YtoajlmmkkcelgaaDoor.Pure
