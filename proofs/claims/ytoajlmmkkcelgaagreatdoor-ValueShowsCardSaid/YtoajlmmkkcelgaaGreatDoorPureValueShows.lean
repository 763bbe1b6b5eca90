import Derived.Lib.DecodeNEq
import Derived.Lib.ValidU
import Derived.Lib.Bytes
import Derived.Lib.MapLaws
import Derived.Test.YtoajlmmkkcelgaaGreatDoorAx0
import Derived.Test.YtoajlmmkkcelgaaGreatDoorAx1
import Derived.Test.YtoajlmmkkcelgaaGreatDoorAx2
import Derived.Test.YtoajlmmkkcelgaaGreatDoorAx9
import Derived.Test.YtoajlmmkkcelgaaGreatDoorAx10
import Derived.Test.YtoajlmmkkcelgaaGreatDoorAx11
import Derived.Test.YtoajlmmkkcelgaaGreatDoorAx12
import Derived.Test.YtoajlmmkkcelgaaGreatDoorAx13
import Derived.Test.YtoajlmmkkcelgaaGreatDoorAx14
import Derived.Test.YtoajlmmkkcelgaaGreatDoorAx15
import Derived.Test.YtoajlmmkkcelgaaGreatDoorAx16
import Derived.Test.YtoajlmmkkcelgaaGreatDoorAx17
import Derived.Test.YtoajlmmkkcelgaaGreatDoorAx18
import Derived.Test.YtoajlmmkkcelgaaGreatDoorAx19
import Derived.Test.YtoajlmmkkcelgaaGreatDoorAx20
namespace Go.Proofs.YtoajlmmkkcelgaaGreatDoor.U8
open Go.RowKit Go.Proofs.YtoajlmmkkcelgaaGreatDoorW.PrintWords Go.Proofs.YtoajlmmkkcelgaaGreatDoorW.PrintLast Go.Lib
set_option linter.unusedVariables false
/-- Is a byte one that goes on? -/
def tl (n i b : Nat) : Prop := i < n ∧ 128 ≤ b ∧ b < 192
instance (n i b : Nat) : Decidable (tl n i b) := by unfold tl; exact inferInstance
/-- The rune at the front, and how many bytes it has; (0, 0): there is none. As the document defines it. -/
def decR (n b0 b1 b2 b3 : Nat) : Nat × Nat :=
  if n = 0 then (0, 0)
  else if b0 < 128 then (b0, 1)
  else if 194 ≤ b0 ∧ b0 < 224 ∧ tl n 1 b1 then (64 * (b0 - 192) + (b1 - 128), 2)
  else if 224 ≤ b0 ∧ b0 < 240 ∧ tl n 1 b1 ∧ tl n 2 b2 ∧ 2048 ≤ 4096 * (b0 - 224) + 64 * (b1 - 128) + (b2 - 128) ∧ (4096 * (b0 - 224) + 64 * (b1 - 128) + (b2 - 128) < 55296 ∨ 57343 < 4096 * (b0 - 224) + 64 * (b1 - 128) + (b2 - 128)) then (4096 * (b0 - 224) + 64 * (b1 - 128) + (b2 - 128), 3)
  else if 240 ≤ b0 ∧ b0 < 245 ∧ tl n 1 b1 ∧ tl n 2 b2 ∧ tl n 3 b3 ∧ 65536 ≤ 262144 * (b0 - 240) + 4096 * (b1 - 128) + 64 * (b2 - 128) + (b3 - 128) ∧ 262144 * (b0 - 240) + 4096 * (b1 - 128) + 64 * (b2 - 128) + (b3 - 128) ≤ 1114111 then (262144 * (b0 - 240) + 4096 * (b1 - 128) + 64 * (b2 - 128) + (b3 - 128), 4)
  else (0, 0)
set_option maxHeartbeats 4000000 in
set_option maxRecDepth 100000 in
theorem decR_decodeN (n b0 b1 b2 b3 : Nat) (hn : n ≠ 0) (h0 : b0 < 256) (h1 : b1 < 256) (h2 : b2 < 256) (h3 : b3 < 256) :
    decR n b0 b1 b2 b3 = if decodeN n b0 b1 b2 b3 = (65533, 1) then (0, 0) else decodeN n b0 b1 b2 b3 := by
  have fin : ∀ X Y : Nat × Nat, decR n b0 b1 b2 b3 = X → decodeN n b0 b1 b2 b3 = Y → (X = if Y = (65533, 1) then (0, 0) else Y) → decR n b0 b1 b2 b3 = if decodeN n b0 b1 b2 b3 = (65533, 1) then (0, 0) else decodeN n b0 b1 b2 b3 := by
    intro X Y e1 e2 e3; rw [e1, e2]; exact e3
  have bad : decR n b0 b1 b2 b3 = (0, 0) → decodeN n b0 b1 b2 b3 = (65533, 1) → decR n b0 b1 b2 b3 = if decodeN n b0 b1 b2 b3 = (65533, 1) then (0, 0) else decodeN n b0 b1 b2 b3 := fun e1 e2 => fin _ _ e1 e2 (by rw [if_pos rfl])
  have good : ∀ X : Nat × Nat, X.2 ≠ 1 ∨ X.1 ≠ 65533 → decR n b0 b1 b2 b3 = X → decodeN n b0 b1 b2 b3 = X → decR n b0 b1 b2 b3 = if decodeN n b0 b1 b2 b3 = (65533, 1) then (0, 0) else decodeN n b0 b1 b2 b3 := fun X h e1 e2 => fin _ _ e1 e2 (by
    rw [if_neg]; intro e; rw [e] at h; simp at h)
  by_cases c0 : b0 < 128
  · exact good (b0, 1) (.inr (by show b0 ≠ 65533; omega)) (by unfold decR; rw [if_neg hn, if_pos c0]) (by unfold decodeN; rw [if_pos c0])
  by_cases c1 : b0 < 192
  · exact bad (by unfold decR; rw [if_neg hn, if_neg c0, if_neg (by omega), if_neg (by omega), if_neg (by omega)]) (by unfold decodeN; rw [if_neg c0, if_neg (by omega), if_neg (by omega), if_neg (by omega)])
  by_cases c2 : b0 < 224
  · by_cases k : 194 ≤ b0 ∧ b0 < 224 ∧ tl n 1 b1
    · have k' := k
      unfold tl at k'
      refine good (64 * (b0 - 192) + (b1 - 128), 2) (.inl (by simp)) (by unfold decR; rw [if_neg hn, if_neg c0, if_pos k]) ?_
      unfold decodeN
      rw [if_neg c0, if_pos (by omega), if_pos (by omega)]
      exact Prod.ext (by show _ = _; omega) rfl
    · have k' := k
      unfold tl at k'
      refine bad (by unfold decR; rw [if_neg hn, if_neg c0, if_neg k, if_neg (by omega), if_neg (by omega)]) ?_
      unfold decodeN
      rw [if_neg c0]
      by_cases k2 : b0 / 32 = 6 ∧ 1 < n ∧ b1 / 64 = 2
      · rw [if_pos k2, if_neg (by omega)]
      · rw [if_neg k2, if_neg (by omega), if_neg (by omega)]
  by_cases c3 : b0 < 240
  · by_cases k : 224 ≤ b0 ∧ b0 < 240 ∧ tl n 1 b1 ∧ tl n 2 b2 ∧ 2048 ≤ 4096 * (b0 - 224) + 64 * (b1 - 128) + (b2 - 128) ∧ (4096 * (b0 - 224) + 64 * (b1 - 128) + (b2 - 128) < 55296 ∨ 57343 < 4096 * (b0 - 224) + 64 * (b1 - 128) + (b2 - 128))
    · have k' := k
      unfold tl at k'
      refine good (4096 * (b0 - 224) + 64 * (b1 - 128) + (b2 - 128), 3) (.inl (by simp)) (by unfold decR; rw [if_neg hn, if_neg c0, if_neg (by omega), if_pos k]) ?_
      unfold decodeN
      rw [if_neg c0, if_neg (by omega), if_pos (by omega), if_pos (by omega)]
      exact Prod.ext (by show _ = _; omega) rfl
    · have k' := k
      unfold tl at k'
      refine bad (by unfold decR; rw [if_neg hn, if_neg c0, if_neg (by omega), if_neg k, if_neg (by omega)]) ?_
      unfold decodeN
      rw [if_neg c0, if_neg (by omega)]
      by_cases k2 : b0 / 16 = 14 ∧ (1 < n ∧ b1 / 64 = 2) ∧ (2 < n ∧ b2 / 64 = 2)
      · rw [if_pos k2, if_neg (by omega)]
      · rw [if_neg k2, if_neg (by omega)]
  · by_cases k : 240 ≤ b0 ∧ b0 < 245 ∧ tl n 1 b1 ∧ tl n 2 b2 ∧ tl n 3 b3 ∧ 65536 ≤ 262144 * (b0 - 240) + 4096 * (b1 - 128) + 64 * (b2 - 128) + (b3 - 128) ∧ 262144 * (b0 - 240) + 4096 * (b1 - 128) + 64 * (b2 - 128) + (b3 - 128) ≤ 1114111
    · have k' := k
      unfold tl at k'
      refine good (262144 * (b0 - 240) + 4096 * (b1 - 128) + 64 * (b2 - 128) + (b3 - 128), 4) (.inl (by simp)) (by unfold decR; rw [if_neg hn, if_neg c0, if_neg (by omega), if_neg (by omega), if_pos k]) ?_
      unfold decodeN
      rw [if_neg c0, if_neg (by omega), if_neg (by omega), if_pos (by omega), if_pos (by omega)]
      exact Prod.ext (by show _ = _; omega) rfl
    · have k' := k
      unfold tl at k'
      refine bad (by unfold decR; rw [if_neg hn, if_neg c0, if_neg (by omega), if_neg (by omega), if_neg k]) ?_
      unfold decodeN
      rw [if_neg c0, if_neg (by omega), if_neg (by omega)]
      by_cases k2 : b0 / 8 = 30 ∧ (1 < n ∧ b1 / 64 = 2) ∧ (2 < n ∧ b2 / 64 = 2) ∧ (3 < n ∧ b3 / 64 = 2)
      · rw [if_pos k2, if_neg (by omega)]
      · rw [if_neg k2]
/-- Byte i of a list, as a number; 0 beyond its end. -/
def byt (l : List UInt8) (i : Nat) : Nat := (l.getD i 0).toNat
theorem byt_lt (l : List UInt8) (i : Nat) : byt l i < 256 := UInt8.toNat_lt _
def dec (l : List UInt8) : Nat × Nat := decR l.length (byt l 0) (byt l 1) (byt l 2) (byt l 3)
theorem get_byt (l : List UInt8) (i : Nat) : ((⟨l.toArray⟩ : ByteArray).get! i).toNat = byt l i := by
  unfold byt
  show (l.toArray[i]!).toNat = _
  by_cases h : i < l.length
  · simp [h, List.getD_eq_getElem?_getD]
  · simp [h, List.getD_eq_getElem?_getD]
    rfl
theorem decodeL_byt (l : List UInt8) : decodeL l = decodeN l.length (byt l 0) (byt l 1) (byt l 2) (byt l 3) := by
  unfold decodeL
  rw [decode_at]
  simp only [Nat.zero_add, get_byt]
  rfl
theorem dec_decodeL (l : List UInt8) (h : l ≠ []) : dec l = if decodeL l = (65533, 1) then (0, 0) else decodeL l := by
  rw [decodeL_byt]
  exact decR_decodeN _ _ _ _ _ (by simpa using h) (byt_lt _ _) (byt_lt _ _) (byt_lt _ _) (byt_lt _ _)
theorem bt_byt (s : ByteArray) (i : Int) : bt s i = (byt s.data.toList i.toNat : Int) := by
  unfold bt byt
  split
  · rename_i h
    have : i.toNat < s.data.toList.length := by rw [Array.length_toList]; exact h
    simp only [List.getD_eq_getElem?_getD, List.getElem?_eq_getElem this, Option.getD_some, Array.getElem_toList]
    rfl
  · rename_i h
    have : s.data.toList.length ≤ i.toNat := by rw [Array.length_toList]; exact Nat.not_lt.1 h
    simp [List.getD_eq_getElem?_getD, List.getElem?_eq_none this]
/-- Its width: none, or one to four, and no more than there are bytes. -/
theorem dec_width (l : List UInt8) : (dec l).2 ≤ 4 ∧ (dec l).2 ≤ l.length ∧ ((dec l).2 = 0 → (dec l).1 = 0) ∧ (dec l).1 ≤ 1114111 := by
  have h0 := byt_lt l 0
  have h1 := byt_lt l 1
  have h2 := byt_lt l 2
  have h3 := byt_lt l 3
  unfold dec decR tl
  repeat' split
  all_goals (refine ⟨?_, ?_, ?_, ?_⟩ <;> first | (simp only; omega) | (intro _; rfl) | (intro h; simp at h))
/-- Is a text UTF-8, from front to end? -/
def validF : Nat → List UInt8 → Bool
  | 0, l => l.isEmpty
  | f + 1, l => if l.isEmpty then true else if (dec l).2 = 0 then false else validF f (l.drop (dec l).2)
theorem validGoD_validF : ∀ (f : Nat) (l : List UInt8), l.length ≤ f → validGoD f l = validF f l
  | 0, l, h => by
    have : l = [] := List.eq_nil_of_length_eq_zero (by omega)
    subst this; rfl
  | f + 1, l, h => by
    by_cases hl : l = []
    · unfold validGoD validF; rw [if_pos hl, if_pos (by simp [hl])]
    · have e := dec_decodeL l hl
      have hw := dec_width l
      have hG : validGoD (f + 1) l = if (decodeL l).1 = 65533 ∧ (decodeL l).2 = 1 then false else validGoD f (l.drop (decodeL l).2) := by
        conv => lhs; unfold validGoD
        rw [if_neg hl]
      have hF : validF (f + 1) l = if (dec l).2 = 0 then false else validF f (l.drop (dec l).2) := by
        conv => lhs; unfold validF
        rw [if_neg (by simpa using hl)]
      rw [hG, hF]
      by_cases hb : decodeL l = (65533, 1)
      · rw [if_pos (by rw [hb]; exact ⟨rfl, rfl⟩), if_pos (by rw [e, if_pos hb])]
      · rw [if_neg hb] at e
        have hpos := decodeL_width l
        rw [if_neg (fun h => hb (Prod.ext h.1 h.2)), if_neg (by rw [e]; omega), e]
        refine validGoD_validF f _ ?_
        rw [List.length_drop]; omega
theorem validD_validF (l : List UInt8) : validD l = validF l.length l := validGoD_validF _ _ (Nat.le_refl _)
end Go.Proofs.YtoajlmmkkcelgaaGreatDoor.U8
namespace Go.Proofs.YtoajlmmkkcelgaaGreatDoor.U8
open Go.RowKit Go.Proofs.YtoajlmmkkcelgaaGreatDoor.A Go.Proofs.YtoajlmmkkcelgaaGreatDoorW.PrintWords Go.Proofs.YtoajlmmkkcelgaaGreatDoorW.PrintLast Go.Lib
set_option linter.unusedVariables false
set_option linter.unusedSimpArgs false
theorem w64 {x : Int} (h0 : -9223372036854775808 ≤ x) (h1 : x ≤ 9223372036854775807) : wrap64 x = x := by unfold wrap64; omega
theorem toList_nil (s : ByteArray) : (s.toList = ([] : List UInt8)) ↔ s.size = 0 := by
  rw [ByteArray.toList_eq]
  constructor
  · intro h
    have := data_length s
    rw [h] at this
    exact this.symm
  · intro h
    exact List.eq_nil_of_length_eq_zero (by rw [data_length]; exact h)
theorem tail_tl (s : ByteArray) (i : Nat) (I : Int) (hi : I = i) : caduceusref02_tail.f s I = some (decide (tl s.size i (byt s.data.toList i))) := by
  subst hi
  unfold caduceusref02_tail.f
  have e := bt_byt s (i : Int)
  rw [Int.toNat_natCast] at e
  rw [e]
  by_cases h : i < s.size
  · rw [if_pos (by omega), if_pos (by omega)]
    by_cases h2 : 128 ≤ byt s.data.toList i
    · rw [if_pos (by omega)]
      exact congrArg some (by rw [decide_eq_decide]; unfold tl; omega)
    · rw [if_neg (by omega)]
      exact congrArg some (decide_eq_false (by unfold tl; omega)).symm
  · rw [if_neg (by omega)]
    exact congrArg some (decide_eq_false (by unfold tl; omega)).symm
theorem V3 (x0 x1 x2 : Nat) (a : 224 ≤ x0 ∧ x0 < 240) (b : 128 ≤ x1 ∧ x1 < 192) (c : 128 ≤ x2 ∧ x2 < 192) : wrap64 ((wrap64 ((wrap64 ((wrap64 (4096 * (wrap64 ((x0 : Int) - 224)))) + (wrap64 (64 * (wrap64 ((x1 : Int) - 128)))))) + (x2 : Int))) - 128) = ((4096 * (x0 - 224) + 64 * (x1 - 128) + (x2 - 128) : Nat) : Int) := by
  rw [w64 (x := (x0 : Int) - 224) (by omega) (by omega), w64 (x := (x1 : Int) - 128) (by omega) (by omega), w64 (x := 4096 * ((x0 : Int) - 224)) (by omega) (by omega), w64 (x := 64 * ((x1 : Int) - 128)) (by omega) (by omega), w64 (x := 4096 * ((x0 : Int) - 224) + 64 * ((x1 : Int) - 128)) (by omega) (by omega), w64 (x := 4096 * ((x0 : Int) - 224) + 64 * ((x1 : Int) - 128) + x2) (by omega) (by omega), w64 (by omega) (by omega)]
  omega
theorem V4 (x0 x1 x2 x3 : Nat) (a : 240 ≤ x0 ∧ x0 < 245) (b : 128 ≤ x1 ∧ x1 < 192) (c : 128 ≤ x2 ∧ x2 < 192) (d : 128 ≤ x3 ∧ x3 < 192) : wrap64 ((wrap64 ((wrap64 ((wrap64 ((wrap64 (262144 * (wrap64 ((x0 : Int) - 240)))) + (wrap64 (4096 * (wrap64 ((x1 : Int) - 128)))))) + (wrap64 (64 * (wrap64 ((x2 : Int) - 128)))))) + (x3 : Int))) - 128) = ((262144 * (x0 - 240) + 4096 * (x1 - 128) + 64 * (x2 - 128) + (x3 - 128) : Nat) : Int) := by
  rw [w64 (x := (x0 : Int) - 240) (by omega) (by omega), w64 (x := (x1 : Int) - 128) (by omega) (by omega), w64 (x := (x2 : Int) - 128) (by omega) (by omega), w64 (x := 262144 * ((x0 : Int) - 240)) (by omega) (by omega), w64 (x := 4096 * ((x1 : Int) - 128)) (by omega) (by omega), w64 (x := 64 * ((x2 : Int) - 128)) (by omega) (by omega), w64 (x := 262144 * ((x0 : Int) - 240) + 4096 * ((x1 : Int) - 128)) (by omega) (by omega), w64 (x := 262144 * ((x0 : Int) - 240) + 4096 * ((x1 : Int) - 128) + 64 * ((x2 : Int) - 128)) (by omega) (by omega), w64 (x := 262144 * ((x0 : Int) - 240) + 4096 * ((x1 : Int) - 128) + 64 * ((x2 : Int) - 128) + x3) (by omega) (by omega), w64 (by omega) (by omega)]
  omega
theorem first_dec (s : ByteArray) (k : Nat) : caduceusref02_First.f (k + 5) s = some (((dec s.data.toList).1 : Int), ((dec s.data.toList).2 : Int)) := by
  have e0 : bt s 0 = byt s.data.toList 0 := bt_byt s 0
  have e1 : bt s 1 = byt s.data.toList 1 := bt_byt s 1
  have e2 : bt s 2 = byt s.data.toList 2 := bt_byt s 2
  have e3 : bt s 3 = byt s.data.toList 3 := bt_byt s 3
  have b0 := byt_lt s.data.toList 0
  have b1 := byt_lt s.data.toList 1
  have b2 := byt_lt s.data.toList 2
  have b3 := byt_lt s.data.toList 3
  have t1 := tail_tl s 1 1 rfl
  have t2 := tail_tl s 2 2 rfl
  have t3 := tail_tl s 3 3 rfl
  unfold dec
  rw [data_length]
  simp only [caduceusref02_First.f, caduceusref02_First.j0, caduceusref02_First.j1, caduceusref02_First.j2, caduceusref02_First.j3, t1, t2, t3, e0, e1, e2, e3, toList_nil, Option.bind_some, decide_eq_true_eq]
  clear e0 e1 e2 e3 t1 t2 t3
  generalize byt s.data.toList 0 = x0 at *
  generalize byt s.data.toList 1 = x1 at *
  generalize byt s.data.toList 2 = x2 at *
  generalize byt s.data.toList 3 = x3 at *
  generalize s.size = n at *
  have w0 : wrap64 (x0 : Int) = x0 := w64 (by omega) (by omega)
  have w1 : wrap64 (x1 : Int) = x1 := w64 (by omega) (by omega)
  have w2 : wrap64 (x2 : Int) = x2 := w64 (by omega) (by omega)
  have w3 : wrap64 (x3 : Int) = x3 := w64 (by omega) (by omega)
  simp only [w0, w1, w2, w3]
  clear w0 w1 w2 w3
  by_cases c : n = 0
  · rw [if_pos c]; unfold decR; rw [if_pos c]; rfl
  rw [if_neg c, if_pos (by omega)]
  by_cases c0 : x0 < 128
  · rw [if_pos (by omega)]; unfold decR; rw [if_neg c, if_pos c0]; rfl
  rw [if_neg (by omega)]
  by_cases c2 : x0 < 224
  · have n1 : ¬ (224 : Int) ≤ x0 := by omega
    have n2 : ¬ (240 : Int) ≤ x0 := by omega
    have n3 : (x0 : Int) < 224 := by omega
    by_cases k : 194 ≤ x0 ∧ tl n 1 x1
    · have k' := k.2
      unfold tl at k'
      have hR : decR n x0 x1 x2 x3 = (64 * (x0 - 192) + (x1 - 128), 2) := by
        unfold decR; rw [if_neg c, if_neg c0, if_pos ⟨k.1, c2, k.2⟩]
      rw [hR, if_pos (by omega), if_pos (by omega), if_pos k.2, if_pos (by omega)]
      rw [w64 (by omega) (by omega : ((x0 : Int) - 192) ≤ _), w64 (x := 64 * ((x0 : Int) - 192)) (by omega) (by omega), w64 (x := 64 * ((x0 : Int) - 192) + x1) (by omega) (by omega), w64 (x := 64 * ((x0 : Int) - 192) + x1 - 128) (by omega) (by omega)]
      exact congrArg some (Prod.ext (by show _ = _; simp only; omega) rfl)
    · have hR : decR n x0 x1 x2 x3 = (0, 0) := by
        unfold decR; rw [if_neg c, if_neg c0, if_neg (fun h => k ⟨h.1, h.2.2⟩), if_neg (fun h => absurd h.1 (by omega)), if_neg (fun h => absurd h.1 (by omega))]
      rw [hR]
      by_cases h1 : (194 : Int) ≤ x0
      · have h2 : ¬ tl n 1 x1 := fun h => k ⟨by omega, h⟩
        simp only [ge_iff_le, h1, h2, n1, n2, n3, if_true, if_false, Bool.false_eq_true]
        rfl
      · simp only [ge_iff_le, h1, n1, n2, if_true, if_false, Bool.false_eq_true]
        rfl
  have n0 : (194 : Int) ≤ x0 := by omega
  have n1 : (224 : Int) ≤ x0 := by omega
  have n3 : ¬ (x0 : Int) < 224 := by omega
  by_cases c3 : x0 < 240
  · have n2 : ¬ (240 : Int) ≤ x0 := by omega
    have n4 : (x0 : Int) < 240 := by omega
    simp only [ge_iff_le, n0, n1, n2, n3, n4, if_true, if_false, Bool.false_eq_true]
    by_cases k : tl n 1 x1 ∧ tl n 2 x2
    · have k1 := k.1
      have k2 := k.2
      unfold tl at k1 k2
      simp only [k.1, k.2, if_true]
      rw [if_pos (by omega), if_pos (by omega), V3 x0 x1 x2 (by omega) k1.2 k2.2]
      by_cases q : 2048 ≤ 4096 * (x0 - 224) + 64 * (x1 - 128) + (x2 - 128) ∧ (4096 * (x0 - 224) + 64 * (x1 - 128) + (x2 - 128) < 55296 ∨ 57343 < 4096 * (x0 - 224) + 64 * (x1 - 128) + (x2 - 128))
      · have hR : decR n x0 x1 x2 x3 = (4096 * (x0 - 224) + 64 * (x1 - 128) + (x2 - 128), 3) := by
          unfold decR; rw [if_neg c, if_neg c0, if_neg (by omega), if_pos ⟨by omega, c3, k.1, k.2, q⟩]
        rw [hR, if_pos (by omega)]
        by_cases q2 : 4096 * (x0 - 224) + 64 * (x1 - 128) + (x2 - 128) < 55296
        · rw [if_pos (by omega)]; rfl
        · rw [if_neg (by omega), if_pos (by omega)]; rfl
      · have hR : decR n x0 x1 x2 x3 = (0, 0) := by
          unfold decR; rw [if_neg c, if_neg c0, if_neg (by omega), if_neg (fun h => q h.2.2.2.2), if_neg (by omega)]
        rw [hR]
        by_cases q2 : 2048 ≤ 4096 * (x0 - 224) + 64 * (x1 - 128) + (x2 - 128)
        · rw [if_pos (by omega), if_neg (by omega), if_neg (by omega)]; rfl
        · rw [if_neg (by omega)]; rfl
    · have hR : decR n x0 x1 x2 x3 = (0, 0) := by
        unfold decR; rw [if_neg c, if_neg c0, if_neg (by omega), if_neg (fun h => k ⟨h.2.2.1, h.2.2.2.1⟩), if_neg (by omega)]
      rw [hR]
      by_cases h1 : tl n 1 x1
      · have h2 : ¬ tl n 2 x2 := fun h => k ⟨h1, h⟩
        simp only [h1, h2, if_true, if_false]; rfl
      · simp only [h1, if_true, if_false, Bool.false_eq_true]; rfl
  have n2 : (240 : Int) ≤ x0 := by omega
  have n4 : ¬ (x0 : Int) < 240 := by omega
  simp only [ge_iff_le, n0, n1, n2, n3, n4, if_true, if_false, Bool.false_eq_true]
  by_cases c4 : x0 < 245
  · have n5 : (x0 : Int) < 245 := by omega
    simp only [n5, if_true]
    by_cases k : tl n 1 x1 ∧ tl n 2 x2 ∧ tl n 3 x3
    · have k1 := k.1
      have k2 := k.2.1
      have k3 := k.2.2
      unfold tl at k1 k2 k3
      simp only [k.1, k.2.1, k.2.2, if_true]
      rw [if_pos (by omega), if_pos (by omega), if_pos (by omega), V4 x0 x1 x2 x3 (by omega) k1.2 k2.2 k3.2]
      by_cases q : 65536 ≤ 262144 * (x0 - 240) + 4096 * (x1 - 128) + 64 * (x2 - 128) + (x3 - 128) ∧ 262144 * (x0 - 240) + 4096 * (x1 - 128) + 64 * (x2 - 128) + (x3 - 128) ≤ 1114111
      · have hR : decR n x0 x1 x2 x3 = (262144 * (x0 - 240) + 4096 * (x1 - 128) + 64 * (x2 - 128) + (x3 - 128), 4) := by
          unfold decR; rw [if_neg c, if_neg c0, if_neg (by omega), if_neg (by omega), if_pos ⟨by omega, c4, k.1, k.2.1, k.2.2, q⟩]
        rw [hR, if_pos (by omega), if_pos (by omega)]; rfl
      · have hR : decR n x0 x1 x2 x3 = (0, 0) := by
          unfold decR; rw [if_neg c, if_neg c0, if_neg (by omega), if_neg (by omega), if_neg (fun h => q h.2.2.2.2.2)]
        rw [hR]
        by_cases q2 : 65536 ≤ 262144 * (x0 - 240) + 4096 * (x1 - 128) + 64 * (x2 - 128) + (x3 - 128)
        · rw [if_pos (by omega), if_neg (by omega)]; rfl
        · rw [if_neg (by omega)]; rfl
    · have hR : decR n x0 x1 x2 x3 = (0, 0) := by
        unfold decR; rw [if_neg c, if_neg c0, if_neg (by omega), if_neg (by omega), if_neg (fun h => k ⟨h.2.2.1, h.2.2.2.1, h.2.2.2.2.1⟩)]
      rw [hR]
      by_cases h1 : tl n 1 x1
      · by_cases h2 : tl n 2 x2
        · have h3 : ¬ tl n 3 x3 := fun h => k ⟨h1, h2, h⟩
          simp only [h1, h2, h3, if_true, if_false]; rfl
        · simp only [h1, h2, if_true, if_false, Bool.false_eq_true]; rfl
      · simp only [h1, if_true, if_false, Bool.false_eq_true]; rfl
  · have n5 : ¬ (x0 : Int) < 245 := by omega
    have hR : decR n x0 x1 x2 x3 = (0, 0) := by
      unfold decR; rw [if_neg c, if_neg c0, if_neg (by omega), if_neg (by omega), if_neg (by omega)]
    rw [hR]
    simp only [n5, if_false, Bool.false_eq_true]; rfl
theorem extract_toList (s : ByteArray) (i : Nat) : (s.extract i s.size).data.toList = s.data.toList.drop i := by
  have e : s.size = s.data.toList.length := (Array.length_toList).symm
  rw [ByteArray.data_extract, Array.toList_extract, e]
  simp [List.extract]
  exact List.take_of_length_le (by rw [List.length_drop]; omega)
theorem valid_l0 (s : ByteArray) (hs : s.size < 1000000) (k : Nat) : ∀ (m i : Nat), i ≤ s.size → s.size - i ≤ m → caduceusref02_Valid.l0 (k + m + 6) s i = some (validF m (s.data.toList.drop i))
  | m, i, h1, h2 => by
    by_cases hi : i = s.size
    · have e : s.data.toList.drop i = [] := List.drop_of_length_le (by rw [data_length]; omega)
      have hf : validF m [] = true := by cases m <;> rfl
      rw [e, hf]
      show caduceusref02_Valid.l0 (k + m + 5 + 1) s i = _
      simp only [caduceusref02_Valid.l0]
      rw [if_neg (by omega)]
    · obtain ⟨m, rfl⟩ : ∃ q, m = q + 1 := ⟨m - 1, by omega⟩
      have hl : (s.data.toList.drop i).length = s.size - i := by rw [List.length_drop, data_length]
      have hne : ¬ ((s.data.toList.drop i).isEmpty = true) := by
        intro h; rw [List.isEmpty_iff] at h; rw [h] at hl; simp at hl; omega
      have hw := dec_width (s.data.toList.drop i)
      have hf := first_dec (s.extract i s.size) (k + m + 1)
      rw [extract_toList] at hf
      show caduceusref02_Valid.l0 (k + m + 6 + 1) s i = _
      rw [caduceusref02_Valid.l0]
      rw [if_pos (by omega), if_pos (by omega), if_pos (by omega), Int.toNat_natCast, show k + m + 6 = k + m + 1 + 5 by omega, hf]
      simp only [Option.bind_some]
      by_cases hz : (dec (s.data.toList.drop i)).2 = 0
      · rw [if_pos (by omega)]
        unfold validF
        rw [if_neg hne, if_pos hz]
      · rw [if_neg (by omega), w64 (by omega) (by omega)]
        have hv := valid_l0 s hs k m (i + (dec (s.data.toList.drop i)).2) (by omega) (by omega)
        rw [show ((i : Int) + ((dec (s.data.toList.drop i)).2 : Int)) = ((i + (dec (s.data.toList.drop i)).2 : Nat) : Int) by omega, show k + m + 1 + 5 = k + m + 6 by omega, hv]
        conv => rhs; unfold validF
        rw [if_neg hne, if_neg hz, List.drop_drop]
theorem valid_ev (s : ByteArray) (hs : s.size < 1000000) (k : Nat) (hk : s.size + 6 ≤ k) : caduceusref02_Valid.f k s = some (validD s.data.toList) := by
  have h := valid_l0 s hs (k - s.size - 6) s.size 0 (by omega) (by omega)
  rw [validD_validF, data_length]
  unfold caduceusref02_Valid.f
  rw [show k - s.size - 6 + s.size + 6 = k by omega] at h
  exact h
theorem byt_drop (l : List UInt8) (i j : Nat) : byt (l.drop i) j = byt l (i + j) := by
  unfold byt
  rw [List.getD_eq_getElem?_getD, List.getD_eq_getElem?_getD, List.getElem?_drop]
theorem size_len (b : ByteArray) : b.size = b.data.toList.length := (Array.length_toList).symm
end Go.Proofs.YtoajlmmkkcelgaaGreatDoor.U8
namespace Go.Proofs.YtoajlmmkkcelgaaGreatDoor.U8
open Go.RowKit Go.Proofs.YtoajlmmkkcelgaaGreatDoor.A Go.Proofs.YtoajlmmkkcelgaaGreatDoorW.PrintWords Go.Proofs.YtoajlmmkkcelgaaGreatDoorW.PrintLast Go.Lib
set_option linter.unusedVariables false
set_option linter.unusedSimpArgs false
/-- The number of the first bytes, the first one without its two upper bits. -/
def be (l : List UInt8) : Nat → Nat
  | 0 => byt l 0 % 64
  | i + 1 => 256 * be l i + byt l (i + 1)
/-- How many bytes a number has that may be written. -/
def szOf (n : Nat) : Nat := if n < 64 then 1 else if n < 16384 then 2 else if n < 1073741824 then 4 else 8
theorem qsize (n : Nat) (h : n ≤ 4611686018427387903) (k : Nat) : quic_Size.f (k + 1) (n : Int) = some (szOf n : Int) := by
  unfold quic_Size.f szOf
  rw [if_neg (by omega), quic_Size.j0, if_neg (by simp; omega)]
  have e1 : wrap64 (1 * 2) = 2 := by unfold wrap64; omega
  have e2 : wrap64 (2 * 2) = 4 := by unfold wrap64; omega
  have e3 : wrap64 (4 * 2) = 8 := by unfold wrap64; omega
  rw [e1, e2, e3]
  by_cases h1 : n < 64
  · rw [if_neg (by omega), if_neg (by omega), if_neg (by omega), if_pos h1]; rfl
  by_cases h2 : n < 16384
  · rw [if_neg (by omega), if_neg (by omega), if_pos (by omega), if_neg h1, if_pos h2]; rfl
  by_cases h3 : n < 1073741824
  · rw [if_neg (by omega), if_pos (by omega), if_neg h1, if_neg h2, if_pos h3]; rfl
  · rw [if_pos (by omega), if_neg h1, if_neg h2, if_neg h3]; rfl
theorem rsize (n : Nat) (h : n ≤ 4611686018427387903) (k : Nat) : caduceusref01_Size.f (k + 1) (n : Int) = some (szOf n : Int) := by
  unfold caduceusref01_Size.f szOf
  rw [if_neg (by omega), caduceusref01_Size.j0, if_neg (by simp; omega)]
  by_cases h1 : n < 64
  · rw [if_pos (by omega), if_pos h1]; rfl
  by_cases h2 : n < 16384
  · rw [if_neg (by omega), if_pos (by omega), if_neg h1, if_pos h2]; rfl
  by_cases h3 : n < 1073741824
  · rw [if_neg (by omega), if_neg (by omega), if_pos (by omega), if_neg h1, if_neg h2, if_pos h3]; rfl
  · rw [if_neg (by omega), if_neg (by omega), if_neg (by omega), if_neg h1, if_neg h2, if_neg h3]; rfl
/-- A number's bytes. -/
def numB (n : Nat) : List Int :=
  if n < 64 then [(n : Int)]
  else if n < 16384 then [((n / 256 + 64 : Nat) : Int), ((n % 256 : Nat) : Int)]
  else if n < 1073741824 then [((n / 16777216 + 128 : Nat) : Int), ((n / 65536 % 256 : Nat) : Int), ((n / 256 % 256 : Nat) : Int), ((n % 256 : Nat) : Int)]
  else [((n / 72057594037927936 + 192 : Nat) : Int), ((n / 281474976710656 % 256 : Nat) : Int), ((n / 1099511627776 % 256 : Nat) : Int), ((n / 4294967296 % 256 : Nat) : Int), ((n / 16777216 % 256 : Nat) : Int), ((n / 65536 % 256 : Nat) : Int), ((n / 256 % 256 : Nat) : Int), ((n % 256 : Nat) : Int)]
theorem nstep (n sz : Nat) (h : n ≤ 4611686018427387903) (L : List Int) (hL : L.length < 100) (j : Nat) (hj : j ≤ 7) (P : Nat) (hP : P = 2 ^ (8 * j)) (J K : Int) (hJ : J = j) (hK : K = (j : Int) - 1) (k : Nat) :
    caduceusref01_Num.l0 (k + 1) (n : Int) (sz : Int) L J = caduceusref01_Num.l0 k (n : Int) (sz : Int) (L ++ [((n / P % 256 : Nat) : Int)]) K := by
  subst hJ hK
  have e : IntKind.u64.wrap (wrap64 (8 * (j : Int))) = ((8 * j : Nat) : Int) := by
    rw [w64 (by omega) (by omega), IntKind.wrap_u64]; omega
  have e2 : IntKind.u64.wrap (n : Int) = (n : Int) := by rw [IntKind.wrap_u64]; omega
  have e3 : shr .u64 (n : Int) ((8 * j : Nat) : Int) = ((n / P : Nat) : Int) := by
    unfold shr
    rw [Int.toNat_natCast, Nat.min_eq_left (by show 8 * j ≤ 64; omega), hP, Int.natCast_ediv]
    congr 1
  rw [caduceusref01_Num.l0, if_pos (by omega), e, if_pos (by omega), if_pos (by omega), e2, e3, w64 (by omega) (by omega), Int.natCast_emod]
  rfl
theorem rnum (n : Nat) (h : n ≤ 4611686018427387903) (k : Nat) : caduceusref01_Num.f (k + 12) (n : Int) = some (strOfNums (numB n)) := by
  unfold caduceusref01_Num.f
  rw [rsize n h (k + 11)]
  simp only [Option.bind_some]
  unfold szOf numB
  by_cases h1 : n < 64
  · rw [if_pos h1, if_pos h1, show wrap64 (((1 : Nat) : Int) - 1) = 0 by unfold wrap64; omega, nstep n 1 h [] (by decide) 0 (by decide) 1 (by decide) 0 (-1) rfl (by omega)]
    rw [caduceusref01_Num.l0, if_neg (by omega), if_neg (by omega), caduceusref01_Num.j1, if_neg (by omega), if_neg (by omega)]
    rw [show n / 1 % 256 = n by omega]; rfl
  by_cases h2 : n < 16384
  · rw [if_neg h1, if_neg h1, if_pos h2, if_pos h2, show wrap64 (((2 : Nat) : Int) - 1) = 1 by unfold wrap64; omega, nstep n 2 h [] (by decide) 1 (by decide) 256 (by decide) 1 0 rfl (by omega), nstep n 2 h _ (by simp) 0 (by decide) 1 (by decide) 0 (-1) rfl (by omega)]
    rw [caduceusref01_Num.l0, if_neg (by omega), if_pos (by omega), if_pos (by simp), caduceusref01_Num.j1, if_neg (by omega), if_neg (by omega)]
    have e : (((n / 256 % 256 : Nat) : Int) + 64) % 256 = ((n / 256 + 64 : Nat) : Int) := by omega
    show some (strOfNums [(((n / 256 % 256 : Nat) : Int) + 64) % 256, ((n / 1 % 256 : Nat) : Int)]) = _
    rw [e, show n / 1 % 256 = n % 256 by omega]
  by_cases h3 : n < 1073741824
  · rw [if_neg h1, if_neg h1, if_neg h2, if_neg h2, if_pos h3, if_pos h3, show wrap64 (((4 : Nat) : Int) - 1) = 3 by unfold wrap64; omega, nstep n 4 h [] (by decide) 3 (by decide) 16777216 (by decide) 3 2 rfl (by omega), nstep n 4 h _ (by simp) 2 (by decide) 65536 (by decide) 2 1 rfl (by omega), nstep n 4 h _ (by simp) 1 (by decide) 256 (by decide) 1 0 rfl (by omega), nstep n 4 h _ (by simp) 0 (by decide) 1 (by decide) 0 (-1) rfl (by omega)]
    rw [caduceusref01_Num.l0, if_neg (by omega), if_neg (by omega), caduceusref01_Num.j1, if_pos (by omega), if_pos (by simp)]
    have e : (((n / 16777216 % 256 : Nat) : Int) + 128) % 256 = ((n / 16777216 + 128 : Nat) : Int) := by omega
    simp only [Option.bind_some]
    rw [if_neg (by omega)]
    show some (strOfNums [(((n / 16777216 % 256 : Nat) : Int) + 128) % 256, ((n / 65536 % 256 : Nat) : Int), ((n / 256 % 256 : Nat) : Int), ((n / 1 % 256 : Nat) : Int)]) = _
    rw [e, show n / 1 % 256 = n % 256 by omega]
  · rw [if_neg h1, if_neg h1, if_neg h2, if_neg h2, if_neg h3, if_neg h3, show wrap64 (((8 : Nat) : Int) - 1) = 7 by unfold wrap64; omega, nstep n 8 h [] (by decide) 7 (by decide) 72057594037927936 (by decide) 7 6 rfl (by omega), nstep n 8 h _ (by simp) 6 (by decide) 281474976710656 (by decide) 6 5 rfl (by omega), nstep n 8 h _ (by simp) 5 (by decide) 1099511627776 (by decide) 5 4 rfl (by omega), nstep n 8 h _ (by simp) 4 (by decide) 4294967296 (by decide) 4 3 rfl (by omega), nstep n 8 h _ (by simp) 3 (by decide) 16777216 (by decide) 3 2 rfl (by omega), nstep n 8 h _ (by simp) 2 (by decide) 65536 (by decide) 2 1 rfl (by omega), nstep n 8 h _ (by simp) 1 (by decide) 256 (by decide) 1 0 rfl (by omega), nstep n 8 h _ (by simp) 0 (by decide) 1 (by decide) 0 (-1) rfl (by omega)]
    rw [caduceusref01_Num.l0, if_neg (by omega), if_neg (by omega), caduceusref01_Num.j1, if_neg (by omega), if_pos (by omega), if_pos (by simp)]
    have e : (((n / 72057594037927936 % 256 : Nat) : Int) + 192) % 256 = ((n / 72057594037927936 + 192 : Nat) : Int) := by omega
    show some (strOfNums [(((n / 72057594037927936 % 256 : Nat) : Int) + 192) % 256, ((n / 281474976710656 % 256 : Nat) : Int), ((n / 1099511627776 % 256 : Nat) : Int), ((n / 4294967296 % 256 : Nat) : Int), ((n / 16777216 % 256 : Nat) : Int), ((n / 65536 % 256 : Nat) : Int), ((n / 256 % 256 : Nat) : Int), ((n / 1 % 256 : Nat) : Int)]) = _
    rw [e, show n / 1 % 256 = n % 256 by omega]
theorem numB_len (n : Nat) : (numB n).length = szOf n := by
  unfold numB szOf
  repeat' split
  all_goals rfl
theorem szOf_cases (n : Nat) : (n < 64 ∧ szOf n = 1) ∨ (64 ≤ n ∧ n < 16384 ∧ szOf n = 2) ∨ (16384 ≤ n ∧ n < 1073741824 ∧ szOf n = 4) ∨ (1073741824 ≤ n ∧ szOf n = 8) := by
  unfold szOf
  repeat' split
  all_goals omega
end Go.Proofs.YtoajlmmkkcelgaaGreatDoor.U8
namespace Go.Proofs.YtoajlmmkkcelgaaGreatDoor.U8
open Go.RowKit Go.Proofs.YtoajlmmkkcelgaaGreatDoor.A Go.Proofs.YtoajlmmkkcelgaaGreatDoorW.PrintWords Go.Proofs.YtoajlmmkkcelgaaGreatDoorW.PrintLast Go.Lib
set_option linter.unusedVariables false
set_option linter.unusedSimpArgs false
/-- A number's bytes, as bytes. -/
def encN (n : Nat) : List UInt8 := Go.Lib.bytesOf (numB n)
theorem encN_len (n : Nat) : (encN n).length = szOf n := by
  unfold encN Go.Lib.bytesOf
  rw [List.length_map, numB_len]
theorem szOf_pos (n : Nat) : 1 ≤ szOf n ∧ szOf n ≤ 8 := by have := szOf_cases n; omega
theorem orC (x c : Nat) (hx : x < 64) (hc : c < 4) : Go.bits .or .u8 (x : Int) ((64 * c : Nat) : Int) = ((x + 64 * c : Nat) : Int) := by
  have all : ∀ (x : Fin 64) (c : Fin 4), Go.bits .or .u8 (x.val : Int) ((64 * c.val : Nat) : Int) = ((x.val + 64 * c.val : Nat) : Int) := by decide +kernel
  exact all ⟨x, hx⟩ ⟨c, hc⟩
theorem qstep (n sz : Nat) (h : n ≤ 4611686018427387903) (hsz : sz ≤ 8) (L : List Int) (hL : L.length = sz) (j : Nat) (hj : j < sz) (P : Nat) (hP : P = 2 ^ (8 * j)) (J K : Int) (hJ : J = j) (hK : K = (j : Int) + 1) (k : Nat) :
    quic_Num.l0 (k + 1) (n : Int) (sz : Int) L (sz : Int) J = quic_Num.l0 k (n : Int) (sz : Int) (L.set (sz - 1 - j) ((n / P % 256 : Nat) : Int)) (sz : Int) K := by
  subst hJ hK
  have e : wrap64 (8 * (j : Int)) = ((8 * j : Nat) : Int) := by rw [w64 (by omega) (by omega)]; omega
  have e1 : wrap64 (wrap64 ((sz : Int) - 1) - (j : Int)) = ((sz - 1 - j : Nat) : Int) := by
    rw [w64 (x := (sz : Int) - 1) (by omega) (by omega), w64 (by omega) (by omega)]; omega
  have e3 : shr .i64 (n : Int) ((8 * j : Nat) : Int) = ((n / P : Nat) : Int) := by
    unfold shr
    rw [Int.toNat_natCast, Nat.min_eq_left (by show 8 * j ≤ 64; omega), hP, Int.natCast_ediv]
    congr 1
  rw [quic_Num.l0, if_pos (by omega), e, if_pos (by omega), e1, if_pos (by omega), if_pos (by rw [hL]; omega), e3, Int.toNat_natCast, Int.natCast_emod, w64 (by omega) (by omega)]
  rfl
theorem qlast (n sz : Nat) (L : List Int) (hL : L.length = sz) (hz : 1 ≤ sz) (J : Int) (hJ : J = (sz : Int)) (c x : Nat) (hc : c < 4) (k : Nat) (hcl : quic_class.f k (sz : Int) = some (c : Int)) (hx : rd L 0 = (x : Int)) (hx6 : x < 64) :
    quic_Num.l0 (k + 1) (n : Int) (sz : Int) L (sz : Int) J = some (strOfNums (L.set 0 ((x + 64 * c : Nat) : Int))) := by
  subst hJ
  rw [quic_Num.l0, if_neg (by omega), if_pos (by omega), hcl, Option.bind_some, hx, w64 (by omega) (by omega), show ((c : Int) * 64) % 256 = ((64 * c : Nat) : Int) by omega, orC x c hx6 hc]
  rfl
theorem cls2 (k : Nat) : quic_class.f (k + 5) ((2 : Nat) : Int) = some ((1 : Nat) : Int) := by
  unfold quic_class.f
  rw [quic_class.l0, if_pos (by decide), show wrap64 (Int.tdiv ((2 : Nat) : Int) 2) = 1 by decide +kernel, show wrap64 (0 + 1) = 1 by decide +kernel, quic_class.l0, if_neg (by decide)]; rfl
theorem cls4 (k : Nat) : quic_class.f (k + 5) ((4 : Nat) : Int) = some ((2 : Nat) : Int) := by
  unfold quic_class.f
  rw [quic_class.l0, if_pos (by decide), show wrap64 (Int.tdiv ((4 : Nat) : Int) 2) = 2 by decide +kernel, show wrap64 (0 + 1) = 1 by decide +kernel, quic_class.l0, if_pos (by decide), show wrap64 (Int.tdiv 2 2) = 1 by decide +kernel, show wrap64 (1 + 1) = 2 by decide +kernel, quic_class.l0, if_neg (by decide)]; rfl
theorem cls8 (k : Nat) : quic_class.f (k + 5) ((8 : Nat) : Int) = some ((3 : Nat) : Int) := by
  unfold quic_class.f
  rw [quic_class.l0, if_pos (by decide), show wrap64 (Int.tdiv ((8 : Nat) : Int) 2) = 4 by decide +kernel, show wrap64 (0 + 1) = 1 by decide +kernel, quic_class.l0, if_pos (by decide), show wrap64 (Int.tdiv 4 2) = 2 by decide +kernel, show wrap64 (1 + 1) = 2 by decide +kernel, quic_class.l0, if_pos (by decide), show wrap64 (Int.tdiv 2 2) = 1 by decide +kernel, show wrap64 (2 + 1) = 3 by decide +kernel, quic_class.l0, if_neg (by decide)]; rfl
theorem numq (n : Nat) (h : n ≤ 4611686018427387903) (k : Nat) : quic_Num.f (k + 20) (n : Int) = some (strOfNums (numB n)) := by
  unfold quic_Num.f
  rw [show k + 20 = k + 19 + 1 by omega, qsize n h (k + 19), Option.bind_some]
  have hp := szOf_pos n
  rw [if_neg (by omega), if_pos (by omega), if_pos (by omega), Int.toNat_natCast]
  unfold szOf numB
  by_cases h1 : n < 64
  · rw [if_pos h1, if_pos h1, qstep n 1 h (by omega) _ rfl 0 (by omega) 1 (by decide) 0 1 rfl rfl]
    rw [qlast n 1 _ rfl (by omega) 1 rfl 0 (n / 1 % 256) (by omega) (k + 18) rfl rfl (by omega), show n / 1 % 256 + 64 * 0 = n by omega]; rfl
  rw [if_neg h1, if_neg h1]
  by_cases h2 : n < 16384
  · rw [if_pos h2, if_pos h2, qstep n 2 h (by omega) _ rfl 0 (by omega) 1 (by decide) 0 1 rfl rfl, qstep n 2 h (by omega) _ rfl 1 (by omega) 256 (by decide) 1 2 rfl rfl]
    rw [qlast n 2 _ rfl (by omega) 2 rfl 1 (n / 256 % 256) (by omega) (k + 17) (cls2 (k + 12)) rfl (by omega), show n / 256 % 256 + 64 * 1 = n / 256 + 64 by omega]
    rw [show n / 1 % 256 = n % 256 by omega]; rfl
  rw [if_neg h2, if_neg h2]
  by_cases h3 : n < 1073741824
  · rw [if_pos h3, if_pos h3, qstep n 4 h (by omega) _ rfl 0 (by omega) 1 (by decide) 0 1 rfl rfl, qstep n 4 h (by omega) _ rfl 1 (by omega) 256 (by decide) 1 2 rfl rfl, qstep n 4 h (by omega) _ rfl 2 (by omega) 65536 (by decide) 2 3 rfl rfl, qstep n 4 h (by omega) _ rfl 3 (by omega) 16777216 (by decide) 3 4 rfl rfl]
    rw [qlast n 4 _ rfl (by omega) 4 rfl 2 (n / 16777216 % 256) (by omega) (k + 15) (cls4 (k + 10)) rfl (by omega), show n / 16777216 % 256 + 64 * 2 = n / 16777216 + 128 by omega]
    rw [show n / 1 % 256 = n % 256 by omega]; rfl
  · rw [if_neg h3, if_neg h3, qstep n 8 h (by omega) _ rfl 0 (by omega) 1 (by decide) 0 1 rfl rfl, qstep n 8 h (by omega) _ rfl 1 (by omega) 256 (by decide) 1 2 rfl rfl, qstep n 8 h (by omega) _ rfl 2 (by omega) 65536 (by decide) 2 3 rfl rfl, qstep n 8 h (by omega) _ rfl 3 (by omega) 16777216 (by decide) 3 4 rfl rfl,
      qstep n 8 h (by omega) _ rfl 4 (by omega) 4294967296 (by decide) 4 5 rfl rfl, qstep n 8 h (by omega) _ rfl 5 (by omega) 1099511627776 (by decide) 5 6 rfl rfl, qstep n 8 h (by omega) _ rfl 6 (by omega) 281474976710656 (by decide) 6 7 rfl rfl, qstep n 8 h (by omega) _ rfl 7 (by omega) 72057594037927936 (by decide) 7 8 rfl rfl]
    rw [qlast n 8 _ rfl (by omega) 8 rfl 3 (n / 72057594037927936 % 256) (by omega) (k + 11) (cls8 (k + 6)) rfl (by omega), show n / 72057594037927936 % 256 + 64 * 3 = n / 72057594037927936 + 192 by omega]
    rw [show n / 1 % 256 = n % 256 by omega]; rfl
end Go.Proofs.YtoajlmmkkcelgaaGreatDoor.U8
namespace Go.Proofs.YtoajlmmkkcelgaaGreatDoor.U8
open Go.RowKit Go.Proofs.YtoajlmmkkcelgaaGreatDoor.A Go.Proofs.YtoajlmmkkcelgaaGreatDoorW.PrintWords Go.Proofs.YtoajlmmkkcelgaaGreatDoorW.PrintLast Go.Lib
set_option linter.unusedVariables false
set_option linter.unusedSimpArgs false
/-- Does a text begin with another one? -/
def preB (s p : ByteArray) : Bool := if p.size ≤ s.size then (s.extract 0 p.size).toList == p.toList else false
end Go.Proofs.YtoajlmmkkcelgaaGreatDoor.U8
namespace Go.Proofs.YtoajlmmkkcelgaaGreatDoor.U8
open Go.RowKit Go.Proofs.YtoajlmmkkcelgaaGreatDoor.A Go.Proofs.YtoajlmmkkcelgaaGreatDoorW.PrintWords Go.Proofs.YtoajlmmkkcelgaaGreatDoorW.PrintLast Go.Lib
set_option linter.unusedVariables false
set_option linter.unusedSimpArgs false
theorem drop_at (l : List UInt8) (i : Nat) (h : i < l.length) : ∃ b, l.drop i = b :: l.drop (i + 1) ∧ byt l i = b.toNat := by
  refine ⟨l[i], List.drop_eq_getElem_cons h, ?_⟩
  unfold byt
  rw [List.getD_eq_getElem?_getD, List.getElem?_eq_getElem h]; rfl
theorem btq (s : ByteArray) (i : Nat) : bt s (i : Int) = (byt s.data.toList i : Int) := by
  have := bt_byt s (i : Int)
  rwa [Int.toNat_natCast] at this
end Go.Proofs.YtoajlmmkkcelgaaGreatDoor.U8
namespace Go.Proofs.YtoajlmmkkcelgaaGreatDoor.U8
open Go.RowKit Go.Proofs.YtoajlmmkkcelgaaGreatDoor.A Go.Proofs.YtoajlmmkkcelgaaGreatDoorW.PrintWords Go.Proofs.YtoajlmmkkcelgaaGreatDoorW.PrintLast Go.Lib
set_option linter.unusedVariables false
set_option linter.unusedSimpArgs false
theorem baext {a b : ByteArray} (h : a.data.toList = b.data.toList) : a = b := by
  obtain ⟨⟨a⟩⟩ := a
  obtain ⟨⟨b⟩⟩ := b
  simp only at h
  rw [h]
theorem wa1 (i : Nat) (h : i < 1000000) : wrap64 ((i : Int) + 1) = ((i + 1 : Nat) : Int) := by rw [w64 (by omega) (by omega)]; omega
end Go.Proofs.YtoajlmmkkcelgaaGreatDoor.U8
namespace Go.Proofs.YtoajlmmkkcelgaaGreatDoor.U8
open Go.RowKit Go.Proofs.YtoajlmmkkcelgaaGreatDoor.A Go.Proofs.YtoajlmmkkcelgaaGreatDoorW.PrintWords Go.Proofs.YtoajlmmkkcelgaaGreatDoorW.PrintLast Go.Lib
set_option linter.unusedVariables false
set_option linter.unusedSimpArgs false
/-- Is a rune written with a backslash? -/
def isCtl (c : Int) : Bool := decide (0 ≤ c ∧ c < 32) || c == 34 || c == 92 || c == 127
theorem isCtl_lt (c : Int) (h : isCtl c = true) : 0 ≤ c ∧ c < 128 := by
  unfold isCtl at h
  simp only [Bool.or_eq_true, decide_eq_true_eq, beq_iff_eq] at h
  omega
/-- A prefix, byte for byte. -/
theorem pre_iff (s p : ByteArray) : preB s p = true ↔ p.size ≤ s.size ∧ s.data.toList.take p.size = p.data.toList := by
  unfold preB
  by_cases h : p.size ≤ s.size
  · rw [if_pos h, beq_iff_eq]
    have e : (s.extract 0 p.size).toList = s.data.toList.take p.size := by
      rw [ByteArray.toList_eq, ByteArray.data_extract, Array.toList_extract]
      simp
    rw [e, ByteArray.toList_eq]
    exact ⟨fun x => ⟨h, x⟩, fun x => x.2⟩
  · rw [if_neg h]
    simp [h]
/-- No rune's writing is the beginning of another one's. -/
theorem ctl_once (s : ByteArray) (a b : Int) (ha : isCtl a = true) (hb : isCtl b = true) (pa : preB s (escB a) = true) (pb : preB s (escB b) = true) : a = b := by
  have ra := isCtl_lt a ha
  have rb := isCtl_lt b hb
  have all : ∀ x y : Fin 128, isCtl (x.val : Int) = true → isCtl (y.val : Int) = true → (escB (x.val : Int)).data.toList.take (escB (y.val : Int)).size = (escB (y.val : Int)).data.toList.take (escB (x.val : Int)).size → x = y := by decide +kernel
  have := all ⟨a.toNat, by omega⟩ ⟨b.toNat, by omega⟩
  simp only [Int.toNat_of_nonneg ra.1, Int.toNat_of_nonneg rb.1] at this
  have e := this ha hb (by
    rw [← ((pre_iff _ _).1 pa).2, ← ((pre_iff _ _).1 pb).2, List.take_take, List.take_take, Nat.min_comm])
  have := congrArg Fin.val e
  simp only at this
  omega
/-- The rune whose writing, with a backslash, stands at the front. -/
def ctlF (s : ByteArray) : Nat → Nat → Option Nat
  | 0, _ => none
  | m + 1, c => if isCtl c = true ∧ preB s (escB c) = true then some c else ctlF s m (c + 1)
theorem ctlF_some (s : ByteArray) : ∀ m c r, ctlF s m c = some r → c ≤ r ∧ r < c + m ∧ isCtl r = true ∧ preB s (escB r) = true
  | 0, c, r, h => by simp [ctlF] at h
  | m + 1, c, r, h => by
    rw [ctlF] at h
    split at h
    · rename_i h1
      obtain rfl := Option.some.inj h
      exact ⟨by omega, by omega, h1.1, h1.2⟩
    · have := ctlF_some s m (c + 1) r h
      exact ⟨by omega, by omega, this.2.2⟩
theorem ctlF_none (s : ByteArray) : ∀ m c, ctlF s m c = none → ∀ r : Nat, c ≤ r → r < c + m → isCtl r = true → preB s (escB r) = true → False
  | 0, c, h, r, h1, h2, _, _ => by omega
  | m + 1, c, h, r, h1, h2, h3, h4 => by
    rw [ctlF] at h
    split at h
    · cases h
    · rename_i hn
      by_cases e : r = c
      · subst e; exact hn ⟨h3, h4⟩
      · exact ctlF_none s m (c + 1) h r (by omega) (by omega) h3 h4
def ctl (s : ByteArray) : Option Nat := ctlF s 128 0
theorem ctl_of (s : ByteArray) (c : Int) (h : isCtl c = true) (hp : preB s (escB c) = true) : ctl s = some c.toNat := by
  have hr := isCtl_lt c h
  cases e : ctl s with
  | none => exact absurd hp (fun hp => ctlF_none s 128 0 e c.toNat (by omega) (by omega) (by rw [Int.toNat_of_nonneg hr.1]; exact h) (by rw [Int.toNat_of_nonneg hr.1]; exact hp))
  | some r =>
    have := ctlF_some s 128 0 r e
    have e2 := ctl_once s r c this.2.2.1 h this.2.2.2 hp
    rw [← e2, Int.toNat_natCast]
theorem ctl_lt (s : ByteArray) (c : Nat) (h : ctl s = some c) : c < 128 ∧ isCtl c = true ∧ preB s (escB c) = true := by
  have := ctlF_some s 128 0 c h
  exact ⟨by omega, this.2.2⟩
-- the reference's side
theorem escape_r (c : Nat) (h : c < 128) (k : Nat) : caduceusref03_escape.f (k + 8) (c : Int) = some (escB (c : Int)) := by
  have all : ∀ n : Fin 128, caduceusref03_escape.f 8 ((n.val : Nat) : Int) = some (escB ((n.val : Nat) : Int)) := by decide +kernel
  exact at_rounds (fun k => caduceusref03_escape.mono (c : Int) k) (show 8 ≤ k + 8 by omega) (all ⟨c, h⟩)
end Go.Proofs.YtoajlmmkkcelgaaGreatDoor.U8
namespace Go.Proofs.YtoajlmmkkcelgaaGreatDoor.U8
open Go.RowKit Go.Proofs.YtoajlmmkkcelgaaGreatDoor.A Go.Proofs.YtoajlmmkkcelgaaGreatDoorW.PrintWords Go.Proofs.YtoajlmmkkcelgaaGreatDoorW.PrintLast Go.Lib
set_option linter.unusedVariables false
set_option linter.unusedSimpArgs false
/-- Go's writing of a rune and the model's are the same bytes. -/
theorem enc_rune (r : Nat) (hv : r < 55296 ∨ (57343 < r ∧ r ≤ 1114111)) : (Utf8.encode (r : Int)).data.toList = encodeRune (r : Int) := by
  have hvalid : Utf8.valid (r : Int) = true := by
    unfold Utf8.valid
    simp only [Bool.or_eq_true, Bool.and_eq_true, decide_eq_true_eq]
    omega
  unfold Utf8.encode encodeRune
  simp only [hvalid, if_true, Int.toNat_natCast]
  by_cases c1 : r < 128
  · rw [if_pos c1, encodeRuneZ_one (by omega) (by omega)]; simp
  by_cases c2 : r < 2048
  · rw [if_neg c1, if_pos c2, encodeRuneZ_two (by omega) (by omega)]
    simp only [List.map_cons, List.map_nil]
    rw [show (192 + (r : Int) / 64).toNat = 192 + r / 64 by omega, show (128 + (r : Int) % 64).toNat = 128 + r % 64 by omega]
  by_cases c3 : r < 65536
  · rw [if_neg c1, if_neg c2, if_pos c3, encodeRuneZ_three (by omega)]
    simp only [List.map_cons, List.map_nil]
    rw [show (224 + (r : Int) / 4096).toNat = 224 + r / 4096 by omega, show (128 + (r : Int) / 64 % 64).toNat = 128 + r / 64 % 64 by omega, show (128 + (r : Int) % 64).toNat = 128 + r % 64 by omega]
  · rw [if_neg c1, if_neg c2, if_neg c3, encodeRuneZ_four (by omega) (by omega)]
    simp only [List.map_cons, List.map_nil]
    rw [show (240 + (r : Int) / 262144).toNat = 240 + r / 262144 by omega, show (128 + (r : Int) / 4096 % 64).toNat = 128 + r / 4096 % 64 by omega, show (128 + (r : Int) / 64 % 64).toNat = 128 + r / 64 % 64 by omega, show (128 + (r : Int) % 64).toNat = 128 + r % 64 by omega]
/-- What is decoded is a rune that may be, and is written as it stood there. -/
theorem dec_enc (l : List UInt8) (h : (dec l).2 ≠ 0) : decodeL l = dec l ∧ ((dec l).1 < 55296 ∨ (57343 < (dec l).1 ∧ (dec l).1 ≤ 1114111)) ∧ encodeRune ((dec l).1 : Int) = l.take (dec l).2 ∧ l ≠ [] := by
  have hne : l ≠ [] := by
    rintro rfl
    exact h rfl
  have e := dec_decodeL l hne
  have e2 : ¬ decodeL l = (65533, 1) := fun hh => by rw [if_pos hh] at e; rw [e] at h; exact h rfl
  rw [if_neg e2] at e
  refine ⟨e.symm, ?_, ?_, hne⟩
  · have h0 := byt_lt l 0
    have h1 := byt_lt l 1
    have h2 := byt_lt l 2
    have h3 := byt_lt l 3
    revert h
    unfold dec decR tl
    repeat' split
    all_goals first | (intro h; exact absurd rfl h) | (intro h; simp only; omega)
  · rw [e]
    exact encode_decode l hne (fun hh => e2 (Prod.ext hh.1 hh.2))
end Go.Proofs.YtoajlmmkkcelgaaGreatDoor.U8
namespace Go.Proofs.YtoajlmmkkcelgaaGreatDoor.U8
open Go.RowKit Go.Proofs.YtoajlmmkkcelgaaGreatDoor.A Go.Proofs.YtoajlmmkkcelgaaGreatDoorW.PrintWords Go.Proofs.YtoajlmmkkcelgaaGreatDoorW.PrintLast Go.Lib
set_option linter.unusedVariables false
set_option linter.unusedSimpArgs false
theorem ctl_size (s : ByteArray) (c : Nat) (h : ctl s = some c) : 2 ≤ (escB (c : Int)).size ∧ (escB (c : Int)).size ≤ 6 ∧ (escB (c : Int)).size ≤ s.size ∧ c < 128 := by
  obtain ⟨h1, h2, h3⟩ := ctl_lt s c h
  have two := (by decide +kernel : ∀ n : Fin 128, isCtl (n.val : Int) = true → 2 ≤ (escB (n.val : Int)).size) ⟨c, h1⟩ h2
  exact ⟨two, escB_le _, ((pre_iff _ _).1 h3).1, h1⟩
end Go.Proofs.YtoajlmmkkcelgaaGreatDoor.U8
namespace Go.Proofs.YtoajlmmkkcelgaaGreatDoor.U8
open Go.RowKit Go.Proofs.YtoajlmmkkcelgaaGreatDoor.A Go.Proofs.YtoajlmmkkcelgaaGreatDoorW.PrintWords Go.Proofs.YtoajlmmkkcelgaaGreatDoorW.PrintLast Go.Lib
set_option linter.unusedVariables false
set_option linter.unusedSimpArgs false
end Go.Proofs.YtoajlmmkkcelgaaGreatDoor.U8
namespace Go.Proofs.YtoajlmmkkcelgaaGreatDoor.U8
open Go.RowKit Go.Proofs.YtoajlmmkkcelgaaGreatDoor.A Go.Proofs.YtoajlmmkkcelgaaGreatDoorW.PrintWords Go.Proofs.YtoajlmmkkcelgaaGreatDoorW.PrintLast Go.Lib
set_option linter.unusedVariables false
set_option linter.unusedSimpArgs false
theorem nd_le : ∀ (k u : Nat), u < 10 ^ (k + 1) → nDigits u ≤ k + 1
  | 0, u, h => by rw [nDigits_small (by simpa using h)]; omega
  | k + 1, u, h => by
    by_cases c : u < 10
    · rw [nDigits_small c]; omega
    · rw [nDigits_big c]
      have := nd_le k (u / 10) (by rw [Nat.pow_succ] at h; omega)
      omega
theorem dd_le (u : Nat) (h : u ≤ 9007199254740991) : (decDigits u).length ≤ 16 := by
  rw [decDigits_length]
  refine nd_le 15 u ?_
  have e : 10 ^ (15 + 1) = 10000000000000000 := by decide
  rw [e]; omega
theorem itoa_neg' (n : Int) (h : n < 0) : itoa n = 45 :: decDigits n.natAbs := by unfold itoa; rw [if_pos h]
theorem itoa_pos' (n : Int) (h : ¬ n < 0) : itoa n = decDigits n.toNat := by unfold itoa; rw [if_neg h]
end Go.Proofs.YtoajlmmkkcelgaaGreatDoor.U8
namespace Go.Proofs.YtoajlmmkkcelgaaGreatDoor.U8
open Go.RowKit Go.Proofs.YtoajlmmkkcelgaaGreatDoor.A Go.Proofs.YtoajlmmkkcelgaaGreatDoorW.PrintWords Go.Proofs.YtoajlmmkkcelgaaGreatDoorW.PrintLast Go.Lib
set_option linter.unusedVariables false
set_option linter.unusedSimpArgs false
theorem get_byt2 (s : ByteArray) (i : Nat) : (s.get! i).toNat = byt s.data.toList i := by
  have := get_byt s.data.toList i
  have e : (⟨s.data.toList.toArray⟩ : ByteArray) = s := by cases s; simp
  rwa [e] at this
theorem decode_drop (s : ByteArray) (i : Nat) : Utf8.decode s i = decodeL (s.data.toList.drop i) := by
  rw [decode_at, decodeL_byt, get_byt2, get_byt2, get_byt2, get_byt2, byt_drop, byt_drop, byt_drop, byt_drop, List.length_drop, ← size_len]
  rfl
theorem decode_dec (s : ByteArray) (i : Nat) (hi : i < s.size) (h : (dec (s.data.toList.drop i)).2 ≠ 0) : Utf8.decode s i = dec (s.data.toList.drop i) := by
  have hne : s.data.toList.drop i ≠ [] := by
    intro e
    have := congrArg List.length e
    rw [List.length_drop, ← size_len] at this
    simp at this
    omega
  rw [decode_drop]
  have e := dec_decodeL _ hne
  by_cases hb : decodeL (s.data.toList.drop i) = (65533, 1)
  · rw [if_pos hb] at e; rw [e] at h; exact absurd rfl h
  · rw [if_neg hb] at e; exact e.symm
/-- The runes of a text, as far as it is UTF-8. -/
def runesF : Nat → List UInt8 → List Nat
  | 0, _ => []
  | f + 1, l => if l.isEmpty then [] else if (dec l).2 = 0 then [] else (dec l).1 :: runesF f (l.drop (dec l).2)
def runesOf (l : List UInt8) : List Nat := runesF l.length l
def ints (l : List Nat) : List Int := l.map (fun x : Nat => (x : Int))
theorem runes_l0 (s : ByteArray) (hs : s.size < 1000000) (k : Nat) : ∀ (m i : Nat) (xs : List Int), i ≤ s.size → s.size - i ≤ m → xs.length ≤ i → caduceusref02_Runes.l0 (k + m + 7) s xs (i : Int) = some (xs ++ ints (runesF m (s.data.toList.drop i)))
  | 0, i, xs, h1, h2, h3 => by
    rw [show k + 0 + 7 = k + 6 + 1 by omega, caduceusref02_Runes.l0, if_neg (by omega)]
    show some xs = some (xs ++ [])
    rw [List.append_nil]
  | m + 1, i, xs, h1, h2, h3 => by
    have hl : (s.data.toList.drop i).length = s.size - i := by rw [List.length_drop, ← size_len]
    rw [show k + (m + 1) + 7 = k + m + 7 + 1 by omega, caduceusref02_Runes.l0, runesF]
    by_cases hi : i = s.size
    · have e : s.data.toList.drop i = [] := List.drop_of_length_le (by rw [← size_len]; omega)
      rw [if_neg (by omega), e]
      show some xs = some (xs ++ [])
      rw [List.append_nil]
    · have hne : ¬ ((s.data.toList.drop i).isEmpty = true) := by
        intro h; rw [List.isEmpty_iff] at h; rw [h] at hl; simp at hl; omega
      have hw := dec_width (s.data.toList.drop i)
      have hf := first_dec (s.extract i s.size) (k + m + 2)
      rw [extract_toList] at hf
      rw [if_neg hne, if_pos (by omega), if_pos (by omega), if_pos (by omega), Int.toNat_natCast, show k + m + 7 = k + m + 2 + 5 by omega, hf, Option.bind_some]
      dsimp only
      by_cases hz : (dec (s.data.toList.drop i)).2 = 0
      · rw [if_pos (by omega), if_pos hz]
        show some xs = some (xs ++ [])
        rw [List.append_nil]
      · rw [if_neg (by omega), if_neg hz, if_pos (by omega), w64 (by omega) (by omega), show ((i : Int) + ((dec (s.data.toList.drop i)).2 : Int)) = ((i + (dec (s.data.toList.drop i)).2 : Nat) : Int) by omega, show k + m + 2 + 5 = k + m + 7 by omega]
        rw [runes_l0 s hs k m (i + (dec (s.data.toList.drop i)).2) _ (by omega) (by omega) (by rw [List.length_append]; show xs.length + 1 ≤ _; omega), List.append_assoc, ← List.drop_drop]
        rfl
theorem runes_ev (s : ByteArray) (hs : s.size < 1000000) (k : Nat) (hk : s.size + 7 ≤ k) : caduceusref02_Runes.f k s = some (ints (runesOf s.data.toList)) := by
  have h := runes_l0 s hs 0 s.size 0 [] (by omega) (by omega) (by simp)
  have h0 : caduceusref02_Runes.f (s.size + 7) s = some (ints (runesOf s.data.toList)) := by
    unfold caduceusref02_Runes.f runesOf
    rw [← size_len]
    rw [show 0 + s.size + 7 = s.size + 7 by omega] at h
    exact h
  exact at_rounds (fun k => caduceusref02_Runes.mono s k) hk h0
end Go.Proofs.YtoajlmmkkcelgaaGreatDoor.U8
namespace Go.Proofs.YtoajlmmkkcelgaaGreatDoor.U8
open Go.RowKit Go.Proofs.YtoajlmmkkcelgaaGreatDoor.A Go.Proofs.YtoajlmmkkcelgaaGreatDoorW.PrintWords Go.Proofs.YtoajlmmkkcelgaaGreatDoorW.PrintLast Go.Lib
set_option linter.unusedVariables false
set_option linter.unusedSimpArgs false
/-- Bytes, each as two digits. -/
def hexL : List UInt8 → List Int
  | [] => []
  | b :: l => hexd ((b.toNat : Int) / 16) :: hexd ((b.toNat : Int) % 16) :: hexL l
theorem and15 (b : Nat) (h : b < 256) : Go.bits .and .u8 (b : Int) 15 = ((b % 16 : Nat) : Int) := by
  have all : ∀ n : Fin 256, Go.bits .and .u8 (n.val : Int) 15 = ((n.val % 16 : Nat) : Int) := by decide +kernel
  exact all ⟨b, h⟩
theorem hexdig (d : Nat) (h : d < 16) : bt (⟨#[48, 49, 50, 51, 52, 53, 54, 55, 56, 57, 97, 98, 99, 100, 101, 102]⟩ : ByteArray) (d : Int) = hexd (d : Int) := by
  have all : ∀ n : Fin 16, bt (⟨#[48, 49, 50, 51, 52, 53, 54, 55, 56, 57, 97, 98, 99, 100, 101, 102]⟩ : ByteArray) (n.val : Int) = hexd (n.val : Int) := by decide +kernel
  exact all ⟨d, h⟩
theorem drop_byt (s : ByteArray) (i : Nat) (h : i < s.size) : ∃ b : UInt8, s.data.toList.drop i = b :: s.data.toList.drop (i + 1) ∧ byt s.data.toList i = b.toNat := drop_at _ i (by rw [← size_len]; exact h)
theorem hexed_l0 (s : ByteArray) (hs : s.size < 1000000) (k : Nat) : ∀ (m i : Nat) (xs : List Int), i ≤ s.size → s.size - i ≤ m → xs.length ≤ 2 + 2 * i → value_hexed.l0 (k + m + 1) s xs (s.size : Int) (i : Int) = some (strOfNums (xs ++ hexL (s.data.toList.drop i) ++ [39]))
  | 0, i, xs, h1, h2, h3 => by
    have e : s.data.toList.drop i = [] := List.drop_of_length_le (by rw [← size_len]; omega)
    rw [show k + 0 + 1 = k + 1 by omega, value_hexed.l0, if_neg (by omega), if_pos (by omega), e, hexL, List.append_nil]
  | m + 1, i, xs, h1, h2, h3 => by
    rw [show k + (m + 1) + 1 = k + m + 1 + 1 by omega, value_hexed.l0]
    by_cases hi : i = s.size
    · have e : s.data.toList.drop i = [] := List.drop_of_length_le (by rw [← size_len]; omega)
      rw [if_neg (by omega), if_pos (by omega), e, hexL, List.append_nil]
    · obtain ⟨b, e, hb⟩ := drop_byt s i (by omega)
      have g := byt_lt s.data.toList i
      rw [if_pos (by omega), if_pos (by omega), if_pos (by omega), btq s i, and15 _ g, show ((byt s.data.toList i : Nat) : Int) / 16 = ((byt s.data.toList i / 16 : Nat) : Int) by omega, if_pos (by omega), if_pos (by omega), if_pos (by omega), if_pos (by omega), Option.bind_some, hexdig _ (by omega), hexdig _ (by omega)]
      rw [if_pos (by show xs.length + 2 < _; omega), wa1 i (by omega), hexed_l0 s hs k m (i + 1) _ (by omega) (by omega) (by rw [List.length_append]; show xs.length + 2 ≤ _; omega)]
      rw [e, hexL, hb, show (((b.toNat / 16 : Nat)) : Int) = (b.toNat : Int) / 16 by omega, show (((b.toNat % 16 : Nat)) : Int) = (b.toNat : Int) % 16 by omega]
      simp only [List.append_assoc, List.cons_append, List.nil_append]
theorem hexed_q (s : ByteArray) (hs : s.size < 1000000) (k : Nat) (hk : s.size + 1 ≤ k) : value_hexed.f k s = some (strOfNums ([120, 39] ++ hexL s.data.toList ++ [39])) := by
  have h := hexed_l0 s hs 0 s.size 0 [120, 39] (by omega) (by omega) (by simp)
  rw [show 0 + s.size + 1 = s.size + 1 by omega, List.drop_zero] at h
  have h0 : value_hexed.f (s.size + 1) s = some (strOfNums ([120, 39] ++ hexL s.data.toList ++ [39])) := by
    unfold value_hexed.f
    exact h
  exact at_rounds (fun k => value_hexed.mono s k) hk h0
/-- Runes, as they stand within a literal. -/
def escL : List Nat → List UInt8
  | [] => []
  | c :: cs => (escB (c : Int)).data.toList ++ escL cs
theorem quoted_runes (s : ByteArray) : ∀ (m i : Nat), i ≤ s.size → s.size - i ≤ m → validF m (s.data.toList.drop i) = true → quotedFrom s m i = escL (runesF m (s.data.toList.drop i))
  | 0, i, h1, h2, hv => by
    rw [quotedFrom]; rfl
  | m + 1, i, h1, h2, hv => by
    have hl : (s.data.toList.drop i).length = s.size - i := by rw [List.length_drop, ← size_len]
    rw [quotedFrom, runesF]
    by_cases hi : i = s.size
    · have e : s.data.toList.drop i = [] := List.drop_of_length_le (by rw [← size_len]; omega)
      rw [if_neg (by omega), e]; rfl
    · have hne : ¬ ((s.data.toList.drop i).isEmpty = true) := by
        intro h; rw [List.isEmpty_iff] at h; rw [h] at hl; simp at hl; omega
      have hw := dec_width (s.data.toList.drop i)
      rw [validF, if_neg hne] at hv
      by_cases hz : (dec (s.data.toList.drop i)).2 = 0
      · rw [if_pos hz] at hv; cases hv
      · rw [if_neg hz, List.drop_drop] at hv
        rw [if_pos (by omega), if_neg hne, if_neg hz, decode_dec s i (by omega) hz, escL, quoted_runes s m _ (by omega) (by omega) hv, List.drop_drop]
theorem quoted_q (s : ByteArray) (hs : s.size < 1000000) (hv : validD s.data.toList = true) : value_quoted.f s = some ⟨(34 :: (escL (runesOf s.data.toList) ++ [34])).toArray⟩ := by
  unfold value_quoted.f
  have hl : s.data.toList.length = s.size := (size_len s).symm
  rw [validD_validF, hl] at hv
  rw [if_pos (by omega), quoted_runes s s.size 0 (by omega) (by omega) (by rw [List.drop_zero]; exact hv), List.drop_zero]
  unfold runesOf
  rw [hl]
/-- A value that may be, as a literal. -/
def showL (a0 a1 : Int) (a2 : ByteArray) : List UInt8 :=
  if a0 = 1 then itoa a1 else if a0 = 2 then 34 :: (escL (runesOf a2.data.toList) ++ [34])
  else if a0 = 3 then (if a1 = 1 then [116, 114, 117, 101] else [102, 97, 108, 115, 101])
  else Go.Lib.bytesOf ([120, 39] ++ hexL a2.data.toList ++ [39])
end Go.Proofs.YtoajlmmkkcelgaaGreatDoor.U8
namespace Go.Proofs.YtoajlmmkkcelgaaGreatDoor.U8
open Go.RowKit Go.Proofs.YtoajlmmkkcelgaaGreatDoor.A Go.Proofs.YtoajlmmkkcelgaaGreatDoorW.PrintWords Go.Proofs.YtoajlmmkkcelgaaGreatDoorW.PrintLast Go.Lib
set_option linter.unusedVariables false
set_option linter.unusedSimpArgs false
/-- A rune that may be. -/
def okC (c : Nat) : Prop := c < 55296 ∨ (57343 < c ∧ c ≤ 1114111)
def encL : List Nat → List UInt8
  | [] => []
  | c :: cs => encodeRune (c : Int) ++ encL cs
theorem enc_pos (c : Nat) : 1 ≤ (encodeRune (c : Int)).length := by
  unfold encodeRune
  rw [List.length_map]
  exact (encodeRuneZ_length (c : Int)).1
theorem enc_runes : ∀ (m : Nat) (l : List UInt8), l.length ≤ m → validF m l = true → encL (runesF m l) = l ∧ ∀ c ∈ runesF m l, okC c
  | 0, l, hl, hv => by
    have : l = [] := List.eq_nil_of_length_eq_zero (by omega)
    subst this
    exact ⟨rfl, fun c hc => by simp [runesF] at hc⟩
  | m + 1, l, hl, hv => by
    by_cases he : l.isEmpty = true
    · rw [runesF, if_pos he]
      rw [List.isEmpty_iff] at he
      subst he
      exact ⟨rfl, fun c hc => by simp at hc⟩
    · rw [validF, if_neg he] at hv
      by_cases hz : (dec l).2 = 0
      · rw [if_pos hz] at hv; cases hv
      · rw [if_neg hz] at hv
        obtain ⟨_, ho, hen, _⟩ := dec_enc l hz
        obtain ⟨i1, i2⟩ := enc_runes m (l.drop (dec l).2) (by rw [List.length_drop]; omega) hv
        rw [runesF, if_neg he, if_neg hz, encL, i1, hen, List.take_append_drop]
        refine ⟨rfl, fun c hc => ?_⟩
        rcases List.mem_cons.1 hc with rfl | hc
        · exact ho
        · exact i2 c hc
theorem escB_pl (c : Nat) (h : okC c) (hn : ¬ isCtl (c : Int) = true) : (escB (c : Int)).data.toList = encodeRune (c : Int) ∧ 32 ≤ c ∧ c ≠ 127 ∧ c ≠ 34 ∧ c ≠ 92 := by
  unfold isCtl at hn
  simp only [Bool.or_eq_true, decide_eq_true_eq, beq_iff_eq] at hn
  refine ⟨?_, by omega, by omega, by omega, by omega⟩
  have eb : escB (c : Int) = Utf8.encode (c : Int) := by
    unfold escB
    rw [if_neg (by omega), if_neg (by omega), if_neg (by omega), if_neg (by omega), if_neg (by omega)]
  rw [eb, enc_rune c h]
end Go.Proofs.YtoajlmmkkcelgaaGreatDoor.U8
namespace Go.Proofs.YtoajlmmkkcelgaaGreatDoor.U8
open Go.RowKit Go.Proofs.YtoajlmmkkcelgaaGreatDoor.A Go.Proofs.YtoajlmmkkcelgaaGreatDoorW.PrintWords Go.Proofs.YtoajlmmkkcelgaaGreatDoorW.PrintLast Go.Lib
set_option linter.unusedVariables false
set_option linter.unusedSimpArgs false
/-- A value that may be. -/
def okV (a0 a1 : Int) (a2 : ByteArray) : Prop :=
  (a0 = 1 ∧ -9007199254740991 ≤ a1 ∧ a1 ≤ 9007199254740991 ∧ a2.size = 0) ∨ (a0 = 2 ∧ a1 = 0 ∧ a2.size ≤ 200 ∧ validD a2.data.toList = true) ∨ (a0 = 3 ∧ (a1 = 0 ∨ a1 = 1) ∧ a2.size = 0) ∨ (a0 = 4 ∧ a1 = 0 ∧ a2.size ≤ 200)
theorem empty_beq (s : ByteArray) : (s.toList == ([] : List UInt8)) = decide (s.size = 0) := by
  have h := toList_nil s
  by_cases c : s.size = 0
  · rw [h.2 c, decide_eq_true c]; rfl
  · rw [decide_eq_false c]
    exact beq_eq_false_iff_ne.2 fun e => c (h.1 e)
theorem check_ok (a0 a1 : Int) (a2 : ByteArray) (h : okV a0 a1 a2) : value_Check.f a0 a1 a2 = some true := by
  unfold value_Check.f
  rw [empty_beq]
  rcases h with ⟨rfl, h1, h2, h3⟩ | ⟨rfl, rfl, h1, h2⟩ | ⟨rfl, h1, h2⟩ | ⟨rfl, rfl, h1⟩
  · rw [if_pos rfl, if_pos (by omega), if_pos (by omega), decide_eq_true h3]
  · rw [if_neg (by omega), if_pos rfl, if_pos rfl, if_pos (by omega), utf8_ValidString.f, if_pos (by omega), Option.bind_some, h2]
  · rw [if_neg (by omega), if_neg (by omega), if_pos rfl, decide_eq_true h2]
    rcases h1 with rfl | rfl <;> rfl
  · rw [if_neg (by omega), if_neg (by omega), if_neg (by omega), if_pos rfl, if_pos rfl, decide_eq_true (by omega)]
theorem check_no (a0 a1 : Int) (a2 : ByteArray) (h : ¬ okV a0 a1 a2) : value_Check.f a0 a1 a2 = some false := by
  unfold value_Check.f
  unfold okV at h
  rw [empty_beq]
  by_cases c1 : a0 = 1
  · subst c1
    rw [if_pos rfl]
    by_cases d1 : a1 ≥ -9007199254740991
    · rw [if_pos d1]
      by_cases d2 : a1 ≤ 9007199254740991
      · rw [if_pos d2, decide_eq_false fun e => h (.inl ⟨rfl, d1, d2, e⟩)]
      · rw [if_neg d2]
    · rw [if_neg d1]
  rw [if_neg c1]
  by_cases c2 : a0 = 2
  · subst c2
    rw [if_pos rfl]
    by_cases d1 : a1 = 0
    · rw [if_pos d1]
      by_cases d2 : (a2.size : Int) ≤ 200
      · rw [if_pos d2, utf8_ValidString.f, if_pos (by omega), Option.bind_some]
        by_cases d3 : validD a2.data.toList = true
        · exact absurd (.inr (.inl ⟨rfl, d1, by omega, d3⟩)) h
        · rw [Bool.not_eq_true] at d3; rw [d3]
      · rw [if_neg d2]
    · rw [if_neg d1]
  rw [if_neg c2]
  by_cases c3 : a0 = 3
  · subst c3
    rw [if_pos rfl]
    by_cases d1 : a1 = 0
    · rw [if_pos d1, decide_eq_false fun e => h (.inr (.inr (.inl ⟨rfl, .inl d1, e⟩)))]
    rw [if_neg d1]
    by_cases d2 : a1 = 1
    · rw [if_pos d2, decide_eq_false fun e => h (.inr (.inr (.inl ⟨rfl, .inr d2, e⟩)))]
    rw [if_neg d2]
  rw [if_neg c3]
  by_cases c4 : a0 = 4
  · subst c4
    rw [if_pos rfl]
    by_cases d1 : a1 = 0
    · rw [if_pos d1, decide_eq_false fun e => h (.inr (.inr (.inr ⟨rfl, d1, by omega⟩)))]
    rw [if_neg d1]
  rw [if_neg c4]
theorem show_no (a0 a1 : Int) (a2 : ByteArray) (h : ¬ okV a0 a1 a2) (k : Nat) : value_Show.f k a0 a1 a2 = some ⟨#[]⟩ := by
  unfold value_Show.f
  rw [check_no _ _ _ h, Option.bind_some, if_neg (by decide)]
theorem show_q (a0 a1 : Int) (a2 : ByteArray) (h : okV a0 a1 a2) (k : Nat) (hk : 300 ≤ k) : value_Show.f k a0 a1 a2 = some ⟨(showL a0 a1 a2).toArray⟩ := by
  unfold value_Show.f showL
  rw [check_ok _ _ _ h, Option.bind_some, if_pos rfl]
  rcases h with ⟨rfl, h1, h2, h3⟩ | ⟨rfl, rfl, h1, h2⟩ | ⟨rfl, h1, h2⟩ | ⟨rfl, rfl, h1⟩
  · rw [if_pos rfl, if_pos rfl, strconv_Itoa.f, if_pos (by omega), Option.bind_some]
  · rw [if_neg (by omega), if_pos rfl, if_neg (by omega), if_pos rfl, quoted_q a2 (by omega) h2, Option.bind_some]
  · rw [if_neg (by omega), if_neg (by omega), if_pos rfl, if_neg (by omega), if_neg (by omega), if_pos rfl]
    rcases h1 with rfl | rfl <;> rfl
  · rw [if_neg (by omega), if_neg (by omega), if_neg (by omega), if_neg (by omega), if_neg (by omega), if_neg (by omega), hexed_q a2 (by omega) k (by omega), Option.bind_some]
    rfl
end Go.Proofs.YtoajlmmkkcelgaaGreatDoor.U8
namespace Go.Proofs.YtoajlmmkkcelgaaGreatDoor.U8
open Go.RowKit Go.Proofs.YtoajlmmkkcelgaaGreatDoor.A Go.Proofs.YtoajlmmkkcelgaaGreatDoorW.PrintWords Go.Proofs.YtoajlmmkkcelgaaGreatDoorW.PrintLast Go.Lib
set_option linter.unusedVariables false
set_option linter.unusedSimpArgs false
/-- A number of either sign as one without. -/
def foldN (v : Int) : Nat := if v < 0 then (-2 * v - 1).toNat else (2 * v).toNat
/-- A value that may be, as bytes. -/
def textL (a0 a1 : Int) (a2 : ByteArray) : List UInt8 :=
  encN a0.toNat ++ (if a0 = 1 then encN (foldN a1) else if a0 = 3 then [UInt8.ofNat a1.toNat] else encN a2.size ++ a2.data.toList)
theorem numS (n : Nat) : (strOfNums (numB n)).data.toList = encN n := rfl
theorem numS_size (n : Nat) : (strOfNums (numB n)).size = szOf n := by rw [size_len, numS, encN_len]
theorem one1 (n : Nat) (h : n ≤ 4611686018427387903) (k : Nat) : quic_one.f (k + 20) 1 (n : Int) ⟨#[]⟩ = some (strOfNums (numB n), true) := by
  unfold quic_one.f
  rw [if_pos rfl, numq n h k, Option.bind_some, if_pos (by omega), if_pos (by omega), empty_beq]; rfl
theorem one2 (v : Int) (h0 : -9007199254740991 ≤ v) (h1 : v ≤ 9007199254740991) (k : Nat) : quic_one.f (k + 20) 2 v ⟨#[]⟩ = some (strOfNums (numB (foldN v)), true) := by
  have hw : quic_whole.f v = some true := by unfold quic_whole.f; rw [if_pos (by omega), decide_eq_true (by omega)]
  have hf : quic_fold.f v = some (foldN v : Int) := by
    unfold quic_fold.f foldN
    by_cases c : v < 0
    · rw [if_pos c, if_pos c, w64 (x := (-2) * v) (by omega) (by omega), w64 (by omega) (by omega), Int.toNat_of_nonneg (by omega)]
    · rw [if_neg c, if_neg c, w64 (by omega) (by omega), Int.toNat_of_nonneg (by omega)]
  have hn : foldN v ≤ 4611686018427387903 := by unfold foldN; split <;> omega
  unfold quic_one.f quic_Whole.f
  rw [if_neg (by omega), if_pos rfl, hw, Option.bind_some, if_pos rfl, hf, Option.bind_some, numq _ hn k, Option.bind_some, Option.bind_some, Option.bind_some, if_pos rfl, empty_beq]; rfl
theorem one3 (b : Int) (h : b = 0 ∨ b = 1) (k : Nat) : quic_one.f k 3 b ⟨#[]⟩ = some (⟨#[UInt8.ofNat b.toNat]⟩, true) := by
  unfold quic_one.f
  rw [if_neg (by omega), if_neg (by omega), if_pos rfl, Option.bind_some, empty_beq]
  rcases h with rfl | rfl <;> rfl
theorem one4 (S : ByteArray) (h : S.size ≤ 200) (k : Nat) : quic_one.f (k + 20) 4 0 S = some (strOfNums (numB S.size) ++ S, true) := by
  unfold quic_one.f quic_text.f
  have := szOf_pos S.size
  rw [if_neg (by omega), if_neg (by omega), if_neg (by omega), if_pos rfl, numq _ (by omega) k, Option.bind_some, if_pos (by rw [numS_size]; omega), Option.bind_some, if_pos (by omega)]; rfl
theorem put2 (k : Nat) (x y : S40) (a b : ByteArray) (hx : quic_one.f k x.f0 x.f1 x.f2 = some (a, true)) (hy : quic_one.f k y.f0 y.f1 y.f2 = some (b, true)) (ha : a.size ≤ 1000000) (hb : b.size ≤ 1000000) :
    quic_Put.f k ([x] ++ [y]) = some (⟨(a.data.toList ++ b.data.toList).toArray⟩, 0) := by
  unfold quic_Put.f
  show (if 2 ≤ 4096 then quic_Put.go k [x, y] [] else _) = _
  rw [if_pos (by omega), quic_Put.go, hx, Option.bind_some, if_pos rfl, if_pos (by show 0 + a.size ≤ _; omega), quic_Put.go, hy, Option.bind_some, if_pos rfl, if_pos (by rw [List.nil_append, ← size_len]; show a.size + b.size ≤ _; omega), quic_Put.go, List.nil_append]
theorem vtext_q (a0 a1 : Int) (a2 : ByteArray) (h : okV a0 a1 a2) (k : Nat) : value_Text.f (k + 20) a0 a1 a2 = some ⟨(textL a0 a1 a2).toArray⟩ := by
  unfold value_Text.f textL
  rw [check_ok _ _ _ h, Option.bind_some, if_pos rfl, Option.bind_some]
  have hl : ∀ x : S40, ([x] : List S40).length < 4398046511104 := fun x => by show 1 < _; omega
  have hz : ∀ n : Nat, (strOfNums (numB n)).size ≤ 1000 := fun n => by rw [numS_size]; have := szOf_pos n; omega
  rcases h with ⟨rfl, h1, h2, h3⟩ | ⟨rfl, rfl, h1, h2⟩ | ⟨rfl, h1, h2⟩ | ⟨rfl, rfl, h1⟩
  · rw [if_pos rfl, if_pos (hl _), put2 _ _ _ _ _ (one1 1 (by omega) k) (one2 a1 h1 h2 k) (by have := hz 1; omega) (by have := hz (foldN a1); omega), Option.bind_some, if_pos rfl]; rfl
  · rw [if_neg (by omega), if_neg (by omega), if_pos (hl _), put2 _ _ _ _ _ (one1 2 (by omega) k) (one4 a2 h1 k) (by have := hz 2; omega) (by rw [ByteArray.size_append]; have := hz a2.size; omega), Option.bind_some, if_neg (by omega), if_neg (by omega), ByteArray.data_append, Array.toList_append]; rfl
  · rw [if_neg (by omega), if_pos rfl, if_pos (hl _), put2 _ _ _ _ _ (one1 3 (by omega) k) (one3 a1 h1 (k + 20)) (by have := hz 3; omega) (by show 1 ≤ _; omega), Option.bind_some, if_neg (by omega), if_pos rfl]; rfl
  · rw [if_neg (by omega), if_neg (by omega), if_pos (hl _), put2 _ _ _ _ _ (one1 4 (by omega) k) (one4 a2 h1 k) (by have := hz 4; omega) (by rw [ByteArray.size_append]; have := hz a2.size; omega), Option.bind_some, if_neg (by omega), if_neg (by omega), ByteArray.data_append, Array.toList_append]; rfl
theorem vtext_no (a0 a1 : Int) (a2 : ByteArray) (h : ¬ okV a0 a1 a2) (k : Nat) : value_Text.f k a0 a1 a2 = some ⟨#[]⟩ := by
  unfold value_Text.f
  rw [check_no _ _ _ h, Option.bind_some, if_neg (by decide)]
instance (a0 a1 : Int) (a2 : ByteArray) : Decidable (okV a0 a1 a2) := by unfold okV; infer_instance
def hw (n : Int) : Int := if n = 1 then 2 else if n = 3 then 3 else if n = 2 then 4 else if n = 4 then 4 else 0
end Go.Proofs.YtoajlmmkkcelgaaGreatDoor.U8
namespace Go.Proofs.YtoajlmmkkcelgaaGreatDoor.U8
open Go.RowKit Go.Proofs.YtoajlmmkkcelgaaGreatDoor.A Go.Proofs.YtoajlmmkkcelgaaGreatDoorW.PrintWords Go.Proofs.YtoajlmmkkcelgaaGreatDoorW.PrintLast Go.Lib
set_option linter.unusedVariables false
set_option linter.unusedSimpArgs false
theorem pre_app (s p : ByteArray) (r : List UInt8) (h : s.data.toList = p.data.toList ++ r) : preB s p = true := by
  rw [pre_iff]
  refine ⟨?_, ?_⟩
  · rw [size_len, size_len, h, List.length_append]; omega
  · rw [h, size_len, List.take_left]
theorem valid_runes (a : ByteArray) (hv : validD a.data.toList = true) : encL (runesOf a.data.toList) = a.data.toList ∧ ∀ c ∈ runesOf a.data.toList, okC c := by
  rw [validD_validF] at hv
  exact enc_runes _ _ (Nat.le_refl _) hv
end Go.Proofs.YtoajlmmkkcelgaaGreatDoor.U8
namespace Go.Proofs.YtoajlmmkkcelgaaGreatDoor.U8
open Go.RowKit Go.Proofs.YtoajlmmkkcelgaaGreatDoor.A Go.Proofs.YtoajlmmkkcelgaaGreatDoorW.PrintWords Go.Proofs.YtoajlmmkkcelgaaGreatDoorW.PrintLast Go.Lib
set_option linter.unusedVariables false
set_option linter.unusedSimpArgs false
end Go.Proofs.YtoajlmmkkcelgaaGreatDoor.U8
namespace Go.Proofs.YtoajlmmkkcelgaaGreatDoor.Pure
open Go.RowKit Go.Proofs.YtoajlmmkkcelgaaGreatDoor.A Go.Proofs.YtoajlmmkkcelgaaGreatDoor.U8 Go.Proofs.YtoajlmmkkcelgaaGreatDoorW.PrintWords Go.Proofs.YtoajlmmkkcelgaaGreatDoorW.PrintLast
set_option linter.unusedSimpArgs false
set_option maxRecDepth 100000 in
theorem awake_true : caduceuslaw03_awake.f 60 = some true := by decide +kernel
theorem awake_ev (k : Nat) (h : 60 ≤ k) : caduceuslaw03_awake.f k = some true := at_rounds (fun k => caduceuslaw03_awake.mono k) h awake_true
end Go.Proofs.YtoajlmmkkcelgaaGreatDoor.Pure
namespace Go.Proofs.YtoajlmmkkcelgaaGreatDoor.Pure
open Go.RowKit Go.Proofs.YtoajlmmkkcelgaaGreatDoor.A Go.Proofs.YtoajlmmkkcelgaaGreatDoor.U8 Go.Proofs.YtoajlmmkkcelgaaGreatDoorW.PrintWords Go.Proofs.YtoajlmmkkcelgaaGreatDoorW.PrintLast
set_option linter.unusedSimpArgs false
set_option maxRecDepth 100000 in
theorem check_ev (k : Nat) (hk : 206 ≤ k) (a0 a1 : Int) (a2 : ByteArray) : ∃ b, value_Check.f a0 a1 a2 = some b ∧ caduceusref03_Check.f k a0 a1 a2 = some b := by
  unfold value_Check.f caduceusref03_Check.f
  by_cases hs : (a2.size : Int) ≤ 200
  · rw [valid_ev a2 (by omega) k (by omega)]
    have : utf8_ValidString.f a2 = some (Go.Lib.validD a2.data.toList) := by
      unfold utf8_ValidString.f; rw [if_pos (by omega)]
    rw [this]
    simp only [Option.bind_some]
    repeat' split
    all_goals exact ⟨_, rfl, rfl⟩
  · simp only [hs, if_false]
    repeat' split
    all_goals exact ⟨_, rfl, rfl⟩
end Go.Proofs.YtoajlmmkkcelgaaGreatDoor.Pure
namespace Go.Proofs.YtoajlmmkkcelgaaGreatDoor.Pure
open Go.RowKit Go.Proofs.YtoajlmmkkcelgaaGreatDoor.A Go.Proofs.YtoajlmmkkcelgaaGreatDoor.U8 Go.Proofs.YtoajlmmkkcelgaaGreatDoorW.PrintWords Go.Proofs.YtoajlmmkkcelgaaGreatDoorW.PrintLast Go.Lib
set_option linter.unusedSimpArgs false
set_option linter.unusedVariables false
theorem escL_le : ∀ cs : List Nat, (∀ c ∈ cs, okC c) → (escL cs).length ≤ 8 * (encL cs).length
  | [], h => Nat.le_refl _
  | c :: cs, h => by
    have ih := escL_le cs (fun x hx => h x (List.mem_cons_of_mem _ hx))
    have hp := enc_pos c
    rw [escL, encL, List.length_append, List.length_append]
    by_cases hc : isCtl (c : Int) = true
    · have hr := isCtl_lt _ hc
      have h6 := (ctl_size (escB (c : Int)) c (by
        have := ctl_of (escB (c : Int)) (c : Int) hc (pre_app _ _ [] (by rw [List.append_nil]))
        rwa [Int.toNat_natCast] at this)).2.1
      rw [size_len] at h6
      omega
    · rw [(escB_pl c (h c (List.mem_cons_self ..)) hc).1]; omega
end Go.Proofs.YtoajlmmkkcelgaaGreatDoor.Pure
/- The plain side of the law ValueShows: the literal of each value, and its bytes, are the document's. No premise. -/
namespace Go.Proofs.YtoajlmmkkcelgaaGreatDoor.Pure
open Go.RowKit Go.Proofs.YtoajlmmkkcelgaaGreatDoor.A Go.Proofs.YtoajlmmkkcelgaaGreatDoor.U8 Go.Proofs.YtoajlmmkkcelgaaGreatDoorW.PrintWords Go.Proofs.YtoajlmmkkcelgaaGreatDoorW.PrintLast Go.Lib
set_option linter.unusedSimpArgs false
set_option linter.unusedVariables false
theorem td (a b : Nat) : Int.tdiv (a : Int) (b : Int) = ((a / b : Nat) : Int) := by
  rw [Int.tdiv_eq_ediv_of_nonneg (by omega)]; rfl
theorem tm (a b : Nat) : Int.tmod (a : Int) (b : Int) = ((a % b : Nat) : Int) := by
  rw [Int.tmod_eq_emod_of_nonneg (by omega)]; rfl
theorem dw (c b : Nat) (hb : 0 < b) (h : c ≤ 1114111) : wrap64 (Int.tdiv (c : Int) (b : Int)) = ((c / b : Nat) : Int) := by
  rw [td]
  have : c / b ≤ c := Nat.div_le_self c b
  generalize c / b = q at this
  rw [w64 (by omega) (by omega)]
theorem bytes_q (c : Nat) (h : okC c) : caduceusref02_Bytes.f (c : Int) = some ⟨(encodeRune (c : Int)).toArray⟩ := by
  have hc : c ≤ 1114111 := by unfold okC at h; omega
  unfold caduceusref02_Bytes.f
  rw [show wrap64 (Int.tdiv (c : Int) 64) = ((c / 64 : Nat) : Int) from dw c 64 (by decide) hc, show wrap64 (Int.tdiv (c : Int) 4096) = ((c / 4096 : Nat) : Int) from dw c 4096 (by decide) hc, show wrap64 (Int.tdiv (c : Int) 262144) = ((c / 262144 : Nat) : Int) from dw c 262144 (by decide) hc,
    show Int.tmod (c : Int) 64 = ((c % 64 : Nat) : Int) from tm c 64, show Int.tmod ((c / 64 : Nat) : Int) 64 = ((c / 64 % 64 : Nat) : Int) from tm (c / 64) 64, show Int.tmod ((c / 4096 : Nat) : Int) 64 = ((c / 4096 % 64 : Nat) : Int) from tm (c / 4096) 64]
  by_cases h1 : c < 128
  · rw [if_pos (by omega)]
    unfold encodeRune
    rw [encodeRuneZ_one (by omega) (by omega), show ((c : Int)) % 256 = c by omega]; rfl
  rw [if_neg (by omega)]
  have b2 : (128 + ((c % 64 : Nat) : Int)) % 256 = 128 + (c : Int) % 64 := by omega
  by_cases h2 : c < 2048
  · rw [if_pos (by omega)]
    unfold encodeRune
    rw [encodeRuneZ_two (by omega) (by omega), w64 (by omega) (by omega), w64 (by omega) (by omega), b2, show (192 + ((c / 64 : Nat) : Int)) % 256 = 192 + (c : Int) / 64 by omega]; rfl
  rw [if_neg (by omega)]
  have b3 : (128 + ((c / 64 % 64 : Nat) : Int)) % 256 = 128 + (c : Int) / 64 % 64 := by omega
  by_cases h3 : c < 65536
  · rw [if_pos (by omega)]
    unfold encodeRune
    rw [encodeRuneZ_three (by unfold okC at h; omega), w64 (by omega) (by omega), w64 (by omega) (by omega), w64 (by omega) (by omega), b2, b3, show (224 + ((c / 4096 : Nat) : Int)) % 256 = 224 + (c : Int) / 4096 by omega]; rfl
  · rw [if_neg (by omega)]
    unfold encodeRune
    rw [encodeRuneZ_four (by omega) (by omega), w64 (by omega) (by omega), w64 (by omega) (by omega), w64 (by omega) (by omega), w64 (by omega) (by omega), b2, b3, show (128 + ((c / 4096 % 64 : Nat) : Int)) % 256 = 128 + (c : Int) / 4096 % 64 by omega, show (240 + ((c / 262144 : Nat) : Int)) % 256 = 240 + (c : Int) / 262144 by omega]; rfl
theorem escape_q (c : Nat) (h : okC c) (k : Nat) : caduceusref03_escape.f (k + 8) (c : Int) = some (escB (c : Int)) := by
  by_cases h1 : c < 128
  · exact escape_r c h1 k
  have hn : ¬ isCtl (c : Int) = true := fun e => by have := isCtl_lt _ e; omega
  have hb := bytes_q c h
  have he : (⟨(encodeRune (c : Int)).toArray⟩ : ByteArray) = escB (c : Int) := baext (by rw [(escB_pl c h hn).1])
  rw [he] at hb
  unfold caduceusref03_escape.f
  rw [if_neg (by omega), if_neg (by omega), if_neg (by omega), if_neg (by omega), if_neg (by omega), if_pos (by omega), decide_eq_false (by omega), show k + 8 = k + 6 + 1 + 1 by omega, caduceusref03_escape.j0, if_neg (by decide), if_pos (by omega), if_neg (by omega), caduceusref03_escape.j1, beq_eq_false_iff_ne.2 (by omega), if_neg (by decide), hb]
  rfl
theorem nD_lt (u : Nat) (h : u < 9223372036854775807) : nDigits u < 1000 := by
  have key : ∀ (m u : Nat), u < 10 ^ m → nDigits u ≤ m + 1 := by
    intro m
    induction m with
    | zero => intro u h; rw [nDigits_small (by omega)]; omega
    | succ m ih =>
      intro u h
      by_cases h10 : u < 10
      · rw [nDigits_small h10]; omega
      · have hp : 10 ^ (m + 1) = 10 * 10 ^ m := by rw [Nat.pow_succ, Nat.mul_comm]
        rw [nDigits_big h10]
        have := ih (u / 10) (by omega)
        omega
  have := key 19 u (Nat.lt_trans h (by decide))
  omega
theorem digits_q (k : Nat) : ∀ (m u : Nat), u < 10 ^ (m + 1) → u < 9223372036854775807 → caduceusref03_Digits.f (k + m + 1) (u : Int) = some ⟨(decDigits u).toArray⟩
  | 0, u, h, hu => by
    have hm := tm u 10
    have hu10 : u < 10 := by simpa using h
    rw [caduceusref03_Digits.f, show (10 : Int) = ((10 : Nat) : Int) from rfl, hm, Option.bind_some, if_pos (by omega), w64 (by omega) (by omega), decDigits, dif_pos hu10, Nat.mod_eq_of_lt hu10, show (48 + (u : Int)) % 256 = ((48 + u : Nat) : Int) by omega]
    rfl
  | m + 1, u, h, hu => by
    have hm := tm u 10
    have hd := td u 10
    rw [show k + (m + 1) + 1 = (k + m + 1) + 1 by omega, caduceusref03_Digits.f, show (10 : Int) = ((10 : Nat) : Int) from rfl, hm, hd, Option.bind_some, w64 (x := 48 + ((u % 10 : Nat) : Int)) (by omega) (by omega), w64 (x := ((u / 10 : Nat) : Int)) (by omega) (by omega), show (48 + ((u % 10 : Nat) : Int)) % 256 = ((48 + u % 10 : Nat) : Int) by omega]
    by_cases h10 : u < 10
    · rw [if_pos (by omega), show decDigits u = [UInt8.ofNat (48 + u)] from by rw [decDigits, dif_pos h10], Nat.mod_eq_of_lt h10]; rfl
    · have hp : 10 ^ (m + 1 + 1) = 10 * 10 ^ (m + 1) := by rw [Nat.pow_succ, Nat.mul_comm]
      have ih := digits_q k m (u / 10) (by omega) (by omega)
      have hl : (decDigits (u / 10)).length < 1000 := by
        rcases Nat.lt_or_ge (u / 10) 9007199254740992 with h | h
        · have := dd_le (u / 10) (by omega); omega
        · rw [decDigits_length]
          exact nD_lt (u / 10) (by omega)
      rw [if_neg (by omega), ih, Option.bind_some, if_pos (by show (⟨(decDigits (u / 10)).toArray⟩ : ByteArray).size + 1 ≤ _; rw [size_len]; show (decDigits (u / 10)).length + 1 ≤ _; omega), show decDigits u = decDigits (u / 10) ++ [UInt8.ofNat (48 + u % 10)] from by rw [decDigits, dif_neg h10]]
      exact congrArg some (baext (by rw [ByteArray.data_append, Array.toList_append]; rfl))
theorem runesF_len : ∀ (m : Nat) (l : List UInt8), (runesF m l).length ≤ m
  | 0, l => Nat.le_refl _
  | m + 1, l => by
    rw [runesF]
    split
    · exact Nat.zero_le _
    · split
      · exact Nat.zero_le _
      · rw [List.length_cons]; exact Nat.succ_le_succ (runesF_len m _)
theorem hexr (d : Int) (h0 : 0 ≤ d) (h1 : d < 16) : caduceusref03_Hex.f d = some ⟨(Go.Lib.bytesOf [hexd d]).toArray⟩ := by
  have all : ∀ n : Fin 16, caduceusref03_Hex.f (n.val : Int) = some ⟨(Go.Lib.bytesOf [hexd (n.val : Int)]).toArray⟩ := by decide +kernel
  have := all ⟨d.toNat, by omega⟩
  rwa [show ((⟨d.toNat, by omega⟩ : Fin 16).val : Int) = d by show ((d.toNat : Nat) : Int) = d; omega] at this
theorem bytesOf_app (x y : List Int) : Go.Lib.bytesOf (x ++ y) = Go.Lib.bytesOf x ++ Go.Lib.bytesOf y := List.map_append
theorem mk_app (a b : List UInt8) : (⟨a.toArray⟩ : ByteArray) ++ (⟨b.toArray⟩ : ByteArray) = ⟨(a ++ b).toArray⟩ := baext (by rw [ByteArray.data_append, Array.toList_append])
theorem mk_sz (a : List UInt8) : (⟨a.toArray⟩ : ByteArray).size = a.length := by rw [size_len]
theorem show_l0 (s : ByteArray) (hs : s.size ≤ 2000) (a b : Int) (k : Nat) : ∀ (m i : Nat) (acc : List UInt8), i + m = s.size → acc.length < 100000 - 2 * m →
    caduceusref03_Show.l0 (k + m + 1) ⟨acc.toArray⟩ (i : Int) a b s = some ⟨(acc ++ (Go.Lib.bytesOf (hexL (s.data.toList.drop i)) ++ [39])).toArray⟩
  | 0, i, acc, hi, ha => by
    rw [caduceusref03_Show.l0, if_neg (by omega), if_pos (by rw [mk_sz]; omega), List.drop_of_length_le (by rw [← size_len]; omega)]
    exact congrArg some (mk_app acc [39])
  | m + 1, i, acc, hi, ha => by
    obtain ⟨b8, e, hb⟩ := drop_byt s i (by omega)
    have hlt := b8.toNat_lt
    have hx := hexr ((b8.toNat : Int) / 16) (by omega) (by omega)
    have hy := hexr ((b8.toNat : Int) % 16) (by omega) (by omega)
    have q0 : bt s (i : Int) = (b8.toNat : Int) := by
      rw [bt_byt, Int.toNat_natCast]
      have := hb
      omega
    have hd : Int.tdiv (b8.toNat : Int) 16 = (b8.toNat : Int) / 16 := Int.tdiv_eq_ediv_of_nonneg (by omega)
    have hm : Int.tmod (b8.toNat : Int) 16 = (b8.toNat : Int) % 16 := Int.tmod_eq_emod_of_nonneg (by omega)
    rw [show k + (m + 1) + 1 = (k + m + 1) + 1 by omega, caduceusref03_Show.l0, if_pos (by omega), if_pos (by omega), q0, w64 (x := (b8.toNat : Int)) (by omega) (by omega), hd, hm, w64 (x := (b8.toNat : Int) / 16) (by omega) (by omega), hx, Option.bind_some, if_pos (by rw [mk_sz, mk_sz]; show acc.length + 1 ≤ _; omega), hy, Option.bind_some, mk_app, if_pos (by rw [mk_sz, mk_sz, List.length_append]; show acc.length + 1 + 1 ≤ _; omega), mk_app, w64 (x := (i : Int) + 1) (by omega) (by omega)]
    have ih := show_l0 s hs a b k m (i + 1) ((acc ++ Go.Lib.bytesOf [hexd ((b8.toNat : Int) / 16)]) ++ Go.Lib.bytesOf [hexd ((b8.toNat : Int) % 16)]) (by omega) (by rw [List.length_append, List.length_append]; show acc.length + 1 + 1 < _; omega)
    rw [show ((i : Int) + 1) = ((i + 1 : Nat) : Int) by omega, ih, e, hexL]
    refine congrArg (fun q : List UInt8 => some (⟨q.toArray⟩ : ByteArray)) ?_
    rw [List.append_assoc, List.append_assoc]; rfl
theorem show_l1 (cs : List Nat) (ho : ∀ c ∈ cs, okC c) (hl : cs.length ≤ 2000) (k : Nat) : ∀ (m i : Nat) (acc : List UInt8), i + m = cs.length → acc.length < 200000 - 32 * m →
    caduceusref03_Show.l1 (k + 8 + m + 1) (ints cs) ⟨acc.toArray⟩ (i : Int) = some ⟨(acc ++ (escL (cs.drop i) ++ [34])).toArray⟩
  | 0, i, acc, hi, ha => by
    have hil : (ints cs).length = cs.length := by unfold ints; rw [List.length_map]
    rw [caduceusref03_Show.l1, if_neg (by omega), if_pos (by rw [mk_sz]; omega), List.drop_of_length_le (by omega)]
    exact congrArg some (mk_app acc [34])
  | m + 1, i, acc, hi, ha => by
    have hil : (ints cs).length = cs.length := by unfold ints; rw [List.length_map]
    have hlt : i < cs.length := by omega
    have hr : rd (ints cs) (i : Int) = (cs[i] : Int) := by
      unfold rd ints
      rw [Int.toNat_natCast, List.getD_eq_getElem?_getD, List.getElem?_map, List.getElem?_eq_getElem hlt]; rfl
    have hoc := ho cs[i] (List.getElem_mem hlt)
    have hel := escL_le [cs[i]] (fun c hc => by rw [List.mem_singleton.1 hc]; exact hoc)
    have he8 : (escB (cs[i] : Int)).size ≤ 32 := by
      rw [escL, escL, List.append_nil, encL, encL, List.append_nil, ← size_len] at hel
      have : (encodeRune (cs[i] : Int)).length ≤ 4 := by
        unfold encodeRune
        rw [List.length_map]
        exact (encodeRuneZ_length (cs[i] : Int)).2
      omega
    have heq : (⟨acc.toArray⟩ : ByteArray) ++ escB (cs[i] : Int) = ⟨(acc ++ (escB (cs[i] : Int)).data.toList).toArray⟩ := baext (by rw [ByteArray.data_append, Array.toList_append])
    rw [show k + 8 + (m + 1) + 1 = (k + m + 1) + 8 + 1 by omega, caduceusref03_Show.l1, if_pos (by omega), if_pos (by omega), hr, escape_q _ hoc, Option.bind_some, if_pos (by rw [mk_sz]; omega), heq, w64 (x := (i : Int) + 1) (by omega) (by omega), show ((i : Int) + 1) = ((i + 1 : Nat) : Int) by omega, show (k + m + 1) + 8 = k + 8 + m + 1 by omega]
    rw [show_l1 cs ho hl k m (i + 1) _ (by omega) (by rw [List.length_append, ← size_len]; omega), List.drop_eq_getElem_cons hlt, escL]
    refine congrArg (fun q : List UInt8 => some (⟨q.toArray⟩ : ByteArray)) ?_
    rw [List.append_assoc, List.append_assoc]
theorem rshow_q (a0 a1 : Int) (a2 : ByteArray) (h : okV a0 a1 a2) (k : Nat) (hk : 5000 ≤ k) : caduceusref03_Show.f k a0 a1 a2 = some ⟨(showL a0 a1 a2).toArray⟩ := by
  obtain ⟨b, b1, b2⟩ := check_ev k (by omega) a0 a1 a2
  rw [check_ok _ _ _ h] at b1
  obtain rfl := Option.some.inj b1
  unfold caduceusref03_Show.f showL
  rw [b2, Option.bind_some, if_pos rfl]
  rcases h with ⟨rfl, h1, h2, h3⟩ | ⟨rfl, rfl, h1, h2⟩ | ⟨rfl, h1, h2⟩ | ⟨rfl, rfl, h1⟩
  · rw [if_pos rfl, if_pos rfl]
    obtain ⟨k, rfl⟩ : ∃ q, k = q + 30 := ⟨k - 30, by omega⟩
    by_cases c : a1 < 0
    · have hd := digits_q (k + 9) 19 a1.natAbs (Nat.lt_of_lt_of_le (show a1.natAbs < 9223372036854775807 by omega) (by decide)) (by omega)
      have hl := dd_le a1.natAbs (by omega)
      rw [decide_eq_true c, show k + 30 = k + 9 + 19 + 1 + 1 by omega, caduceusref03_Show.j0, if_pos rfl, w64 (by omega) (by omega), show -a1 = ((a1.natAbs : Nat) : Int) by omega, hd, Option.bind_some, if_pos (by rw [mk_sz]; omega), itoa_neg' _ c]
      exact congrArg some (mk_app [45] _)
    · have hd := digits_q (k + 9) 19 a1.toNat (Nat.lt_of_lt_of_le (show a1.toNat < 9223372036854775807 by omega) (by decide)) (by omega)
      rw [show ((a1.toNat : Nat) : Int) = a1 by omega] at hd
      rw [decide_eq_false c, show k + 30 = k + 9 + 19 + 1 + 1 by omega, caduceusref03_Show.j0, if_neg (by decide), if_pos rfl, hd, Option.bind_some, itoa_pos' _ c]
  · obtain ⟨k, rfl⟩ : ∃ q, k = q + 30 := ⟨k - 30, by omega⟩
    obtain ⟨v1, v2⟩ := valid_runes a2 h2
    have hrl : (runesOf a2.data.toList).length ≤ a2.size := by
      have := runesF_len a2.data.toList.length a2.data.toList
      rw [size_len]; exact this
    have hr := runes_ev a2 (by omega) (k + 28) (by omega)
    have hs := show_l1 (runesOf a2.data.toList) v2 (by omega) (k + 28 - 8 - (runesOf a2.data.toList).length - 1) (runesOf a2.data.toList).length 0 [34] (by omega) (by show 1 < _; omega)
    rw [show k + 28 - 8 - (runesOf a2.data.toList).length - 1 + 8 + (runesOf a2.data.toList).length + 1 = k + 28 by omega] at hs
    rw [if_neg (by decide), if_neg (by decide), if_pos rfl, show k + 30 = k + 28 + 1 + 1 by omega, caduceusref03_Show.j0, if_neg (by decide), if_neg (by decide), if_neg (by decide), caduceusref03_Show.j1, if_neg (by decide), if_neg (by decide), if_neg (by decide), hr, Option.bind_some]
    exact hs
  · obtain ⟨k, rfl⟩ : ∃ q, k = q + 30 := ⟨k - 30, by omega⟩
    rw [if_neg (by decide), if_neg (by decide), if_neg (by decide), if_pos rfl, show k + 30 = k + 28 + 1 + 1 by omega, caduceusref03_Show.j0, if_neg (by decide), if_neg (by decide), if_pos rfl, caduceusref03_Show.j1]
    rcases h1 with rfl | rfl
    · rw [if_neg (by decide), if_pos rfl, if_neg (by decide)]
    · rw [if_pos (by decide), if_pos rfl]
  · obtain ⟨k, rfl⟩ : ∃ q, k = q + 30 := ⟨k - 30, by omega⟩
    have hs := show_l0 a2 (by omega) 4 0 (k + 28 - a2.size - 1) a2.size 0 [120, 39] (by omega) (by show 2 < _; omega)
    rw [show k + 28 - a2.size - 1 + a2.size + 1 = k + 28 by omega] at hs
    rw [if_neg (by decide), if_neg (by decide), if_neg (by decide), if_neg (by decide), show k + 30 = k + 28 + 1 + 1 by omega, caduceusref03_Show.j0, if_neg (by decide), if_neg (by decide), if_neg (by decide), caduceusref03_Show.j1, if_neg (by decide), if_neg (by decide), if_pos rfl]
    refine hs.trans ?_
    rw [bytesOf_app, bytesOf_app, List.append_assoc]
    rfl
theorem rshow_no (a0 a1 : Int) (a2 : ByteArray) (h : ¬ okV a0 a1 a2) (k : Nat) (hk : 5000 ≤ k) : caduceusref03_Show.f k a0 a1 a2 = some ⟨#[]⟩ := by
  obtain ⟨b, b1, b2⟩ := check_ev k (by omega) a0 a1 a2
  rw [check_no _ _ _ h] at b1
  obtain rfl := Option.some.inj b1
  unfold caduceusref03_Show.f
  rw [b2, Option.bind_some, if_neg (by decide)]
theorem rtext_no (a0 a1 : Int) (a2 : ByteArray) (h : ¬ okV a0 a1 a2) (k : Nat) (hk : 5000 ≤ k) : caduceusref03_Text.f k a0 a1 a2 = some ⟨#[]⟩ := by
  obtain ⟨b, b1, b2⟩ := check_ev k (by omega) a0 a1 a2
  rw [check_no _ _ _ h] at b1
  obtain rfl := Option.some.inj b1
  unfold caduceusref03_Text.f
  rw [b2, Option.bind_some, if_neg (by decide)]
theorem num_mk (n : Nat) : strOfNums (numB n) = ⟨(encN n).toArray⟩ := baext (by rw [numS])
theorem rtext_q (a0 a1 : Int) (a2 : ByteArray) (h : okV a0 a1 a2) (k : Nat) (hk : 5000 ≤ k) : caduceusref03_Text.f k a0 a1 a2 = some ⟨(textL a0 a1 a2).toArray⟩ := by
  obtain ⟨b, b1, b2⟩ := check_ev k (by omega) a0 a1 a2
  rw [check_ok _ _ _ h] at b1
  obtain rfl := Option.some.inj b1
  have hk0 : 1 ≤ a0 ∧ a0 ≤ 4 := by unfold okV at h; omega
  have r1 := rnum a0.toNat (by omega) (k - 12)
  rw [show k - 12 + 12 = k by omega, show ((a0.toNat : Nat) : Int) = a0 by omega, num_mk] at r1
  unfold caduceusref03_Text.f textL
  have e8 : ∀ n, (encN n).length ≤ 8 := fun n => by rw [encN_len]; exact (szOf_pos n).2
  have e80 := e8 a0.toNat
  rw [b2, Option.bind_some, if_pos rfl, r1, Option.bind_some]
  rcases h with ⟨rfl, h1, h2, h3⟩ | ⟨rfl, rfl, h1, h2⟩ | ⟨rfl, h1, h2⟩ | ⟨rfl, rfl, h1⟩
  · rw [if_pos rfl, if_pos rfl]
    have hw : caduceusref01_MayWhole.f a1 = some true := by
      unfold caduceusref01_MayWhole.f
      first
        | rw [if_pos (by omega), decide_eq_true (by omega)]
        | (simp; omega)
    have r2 := rnum (foldN a1) (by unfold foldN; split <;> omega) (k - 12)
    rw [show k - 12 + 12 = k by omega, num_mk] at r2
    have e81 := e8 (foldN a1)
    unfold caduceusref01_Whole.f
    rw [hw, Option.bind_some, if_pos rfl]
    by_cases c : a1 < 0
    · have hf : wrap64 (wrap64 (wrap64 (-a1) - a1) - 1) = ((foldN a1 : Nat) : Int) := by
        rw [w64 (x := -a1) (by omega) (by omega), w64 (x := -a1 - a1) (by omega) (by omega), w64 (by omega) (by omega)]
        unfold foldN
        rw [if_pos c]; omega
      rw [if_neg (by omega), hf, r2, Option.bind_some, Option.bind_some, if_pos (by rw [mk_sz, mk_sz]; omega), mk_app]
    · have hf : wrap64 (a1 + a1) = ((foldN a1 : Nat) : Int) := by
        rw [w64 (by omega) (by omega)]
        unfold foldN
        rw [if_neg c]; omega
      rw [if_pos (by omega), hf, r2, Option.bind_some, Option.bind_some, if_pos (by rw [mk_sz, mk_sz]; omega), mk_app]
  · rw [if_neg (by decide), if_neg (by decide), if_neg (by decide), if_neg (by decide)]
    have r2 := rnum a2.size (by omega) (k - 12)
    rw [show k - 12 + 12 = k by omega, num_mk] at r2
    have e81 := e8 a2.size
    rw [r2, Option.bind_some, if_pos (by rw [mk_sz, mk_sz]; omega), mk_app, if_pos (by rw [mk_sz, List.length_append]; omega)]
    exact congrArg some (baext (by rw [ByteArray.data_append, Array.toList_append]; show _ = _; simp))
  · rw [if_neg (by decide), if_pos rfl, if_neg (by decide), if_pos rfl, Option.bind_some]
    have hb : (strOfNums [a1 % 256]) = ⟨[UInt8.ofNat a1.toNat].toArray⟩ := by
      rcases h1 with rfl | rfl <;> rfl
    rw [hb, if_pos (by rw [mk_sz, mk_sz]; show _ + 1 ≤ _; omega), mk_app]
  · rw [if_neg (by decide), if_neg (by decide), if_neg (by decide), if_neg (by decide)]
    have r2 := rnum a2.size (by omega) (k - 12)
    rw [show k - 12 + 12 = k by omega, num_mk] at r2
    have e81 := e8 a2.size
    rw [r2, Option.bind_some, if_pos (by rw [mk_sz, mk_sz]; omega), mk_app, if_pos (by rw [mk_sz, List.length_append]; omega)]
    exact congrArg some (baext (by rw [ByteArray.data_append, Array.toList_append]; show _ = _; simp))
theorem ValueShows (a0 a1 : Int) (a2 : ByteArray) : ∃ k, caduceuslaw03_ValueShows.f k a0 a1 a2 = some true := by
  refine ⟨6000, ?_⟩
  have aw := awake_ev 6000 (by omega)
  unfold caduceuslaw03_ValueShows.f caduceuslaw03_few.f caduceuslaw03_Ref.f
  rw [Option.bind_some, aw]
  by_cases h : (a2.size : Int) ≤ 2000
  · rw [if_pos (decide_eq_true h), Option.bind_some, if_pos rfl]
    by_cases hv : okV a0 a1 a2
    · rw [show_q a0 a1 a2 hv 6000 (by omega), Option.bind_some, Option.bind_some]
      dsimp only
      rw [rshow_q a0 a1 a2 hv 6000 (by omega), Option.bind_some, if_pos rfl, show (6000 : Nat) = 5980 + 20 from rfl, vtext_q a0 a1 a2 hv 5980, Option.bind_some, Option.bind_some]
      dsimp only
      rw [rtext_q a0 a1 a2 hv 6000 (by omega), Option.bind_some, beq_self_eq_true]
    · rw [show_no a0 a1 a2 hv 6000, Option.bind_some, Option.bind_some]
      dsimp only
      rw [rshow_no a0 a1 a2 hv 6000 (by omega), Option.bind_some, if_pos rfl, vtext_no a0 a1 a2 hv 6000, Option.bind_some, Option.bind_some]
      dsimp only
      rw [rtext_no a0 a1 a2 hv 6000 (by omega), Option.bind_some, beq_self_eq_true]
  · rw [if_neg (by rw [decide_eq_false h]; decide), Option.bind_some]
end Go.Proofs.YtoajlmmkkcelgaaGreatDoor.Pure
