import Derived.Lib.DecodeNEq
import Derived.Lib.ValidU
import Derived.Test.YtlejenoibblhnaaDoorAx0
import Derived.Test.YtlejenoibblhnaaDoorAx2
import Derived.Test.YtlejenoibblhnaaDoorAx9
import Derived.Test.YtlejenoibblhnaaDoorAx11
import Derived.Test.YtlejenoibblhnaaDoorAx12
import Derived.Test.YtlejenoibblhnaaDoorAx13
import Derived.Test.YtlejenoibblhnaaDoorAx14
import Derived.Test.YtlejenoibblhnaaDoorAx15
namespace Go.Proofs.YtlejenoibblhnaaDoor.U8
open Go.RowKit Go.Proofs.YtlejenoibblhnaaDoorW.PrintWords Go.Proofs.YtlejenoibblhnaaDoorW.PrintLast Go.Lib
set_option linter.unusedVariables false
def tl (n i b : Nat) : Prop := i < n ∧ 128 ≤ b ∧ b < 192
instance (n i b : Nat) : Decidable (tl n i b) := by unfold tl; exact inferInstance
def decR (n b0 b1 b2 b3 : Nat) : Nat × Nat :=
  if n = 0 then (0, 0)
  else if b0 < 128 then (b0, 1)
  else if 194 ≤ b0 ∧ b0 < 224 ∧ tl n 1 b1 then (64 * (b0 - 192) + (b1 - 128), 2)
  else if 224 ≤ b0 ∧ b0 < 240 ∧ tl n 1 b1 ∧ tl n 2 b2 ∧ 2048 ≤ 4096 * (b0 - 224) + 64 * (b1 - 128) + (b2 - 128) ∧ (4096 * (b0 - 224) + 64 * (b1 - 128) + (b2 - 128) < 55296 ∨ 57343 < 4096 * (b0 - 224) + 64 * (b1 - 128) + (b2 - 128)) then (4096 * (b0 - 224) + 64 * (b1 - 128) + (b2 - 128), 3)
  else if 240 ≤ b0 ∧ b0 < 245 ∧ tl n 1 b1 ∧ tl n 2 b2 ∧ tl n 3 b3 ∧ 65536 ≤ 262144 * (b0 - 240) + 4096 * (b1 - 128) + 64 * (b2 - 128) + (b3 - 128) ∧ 262144 * (b0 - 240) + 4096 * (b1 - 128) + 64 * (b2 - 128) + (b3 - 128) ≤ 1114111 then (262144 * (b0 - 240) + 4096 * (b1 - 128) + 64 * (b2 - 128) + (b3 - 128), 4)
  else (0, 0)
set_option maxHeartbeats 4000000 in
set_option maxRecDepth 100000 in
theorem decR_decodeN (n b0 b1 b2 b3 : Nat) (hn : n ≠ 0) (h0 : b0 < 256) (h1 : b1 < 256) (h2 : b2 < 256) (h3 : b3 < 256) :
    decR n b0 b1 b2 b3 = if decodeN n b0 b1 b2 b3 = (65533, 1) then (0, 0) else decodeN n b0 b1 b2 b3 := by
  have fin : ∀ X Y : Nat × Nat, decR n b0 b1 b2 b3 = X → decodeN n b0 b1 b2 b3 = Y → (X = if Y = (65533, 1) then (0, 0) else Y) → decR n b0 b1 b2 b3 = if decodeN n b0 b1 b2 b3 = (65533, 1) then (0, 0) else decodeN n b0 b1 b2 b3 := by
    intro X Y e1 e2 e3; rw [e1, e2]; exact e3
  have bad : decR n b0 b1 b2 b3 = (0, 0) → decodeN n b0 b1 b2 b3 = (65533, 1) → decR n b0 b1 b2 b3 = if decodeN n b0 b1 b2 b3 = (65533, 1) then (0, 0) else decodeN n b0 b1 b2 b3 := fun e1 e2 => fin _ _ e1 e2 (by rw [if_pos rfl])
  have good : ∀ X : Nat × Nat, X.2 ≠ 1 ∨ X.1 ≠ 65533 → decR n b0 b1 b2 b3 = X → decodeN n b0 b1 b2 b3 = X → decR n b0 b1 b2 b3 = if decodeN n b0 b1 b2 b3 = (65533, 1) then (0, 0) else decodeN n b0 b1 b2 b3 := fun X h e1 e2 => fin _ _ e1 e2 (by
    rw [if_neg]; intro e; rw [e] at h; simp at h)
  by_cases c0 : b0 < 128
  · exact good (b0, 1) (.inr (by show b0 ≠ 65533; omega)) (by unfold decR; rw [if_neg hn, if_pos c0]) (by unfold decodeN; rw [if_pos c0])
  by_cases c1 : b0 < 192
  · exact bad (by unfold decR; rw [if_neg hn, if_neg c0, if_neg (by omega), if_neg (by omega), if_neg (by omega)]) (by unfold decodeN; rw [if_neg c0, if_neg (by omega), if_neg (by omega), if_neg (by omega)])
  by_cases c2 : b0 < 224
  · by_cases k : 194 ≤ b0 ∧ b0 < 224 ∧ tl n 1 b1
    · have k' := k
      unfold tl at k'
      refine good (64 * (b0 - 192) + (b1 - 128), 2) (.inl (by simp)) (by unfold decR; rw [if_neg hn, if_neg c0, if_pos k]) ?_
      unfold decodeN
      rw [if_neg c0, if_pos (by omega), if_pos (by omega)]
      exact Prod.ext (by show _ = _; omega) rfl
    · have k' := k
      unfold tl at k'
      refine bad (by unfold decR; rw [if_neg hn, if_neg c0, if_neg k, if_neg (by omega), if_neg (by omega)]) ?_
      unfold decodeN
      rw [if_neg c0]
      by_cases k2 : b0 / 32 = 6 ∧ 1 < n ∧ b1 / 64 = 2
      · rw [if_pos k2, if_neg (by omega)]
      · rw [if_neg k2, if_neg (by omega), if_neg (by omega)]
  by_cases c3 : b0 < 240
  · by_cases k : 224 ≤ b0 ∧ b0 < 240 ∧ tl n 1 b1 ∧ tl n 2 b2 ∧ 2048 ≤ 4096 * (b0 - 224) + 64 * (b1 - 128) + (b2 - 128) ∧ (4096 * (b0 - 224) + 64 * (b1 - 128) + (b2 - 128) < 55296 ∨ 57343 < 4096 * (b0 - 224) + 64 * (b1 - 128) + (b2 - 128))
    · have k' := k
      unfold tl at k'
      refine good (4096 * (b0 - 224) + 64 * (b1 - 128) + (b2 - 128), 3) (.inl (by simp)) (by unfold decR; rw [if_neg hn, if_neg c0, if_neg (by omega), if_pos k]) ?_
      unfold decodeN
      rw [if_neg c0, if_neg (by omega), if_pos (by omega), if_pos (by omega)]
      exact Prod.ext (by show _ = _; omega) rfl
    · have k' := k
      unfold tl at k'
      refine bad (by unfold decR; rw [if_neg hn, if_neg c0, if_neg (by omega), if_neg k, if_neg (by omega)]) ?_
      unfold decodeN
      rw [if_neg c0, if_neg (by omega)]
      by_cases k2 : b0 / 16 = 14 ∧ (1 < n ∧ b1 / 64 = 2) ∧ (2 < n ∧ b2 / 64 = 2)
      · rw [if_pos k2, if_neg (by omega)]
      · rw [if_neg k2, if_neg (by omega)]
  · by_cases k : 240 ≤ b0 ∧ b0 < 245 ∧ tl n 1 b1 ∧ tl n 2 b2 ∧ tl n 3 b3 ∧ 65536 ≤ 262144 * (b0 - 240) + 4096 * (b1 - 128) + 64 * (b2 - 128) + (b3 - 128) ∧ 262144 * (b0 - 240) + 4096 * (b1 - 128) + 64 * (b2 - 128) + (b3 - 128) ≤ 1114111
    · have k' := k
      unfold tl at k'
      refine good (262144 * (b0 - 240) + 4096 * (b1 - 128) + 64 * (b2 - 128) + (b3 - 128), 4) (.inl (by simp)) (by unfold decR; rw [if_neg hn, if_neg c0, if_neg (by omega), if_neg (by omega), if_pos k]) ?_
      unfold decodeN
      rw [if_neg c0, if_neg (by omega), if_neg (by omega), if_pos (by omega), if_pos (by omega)]
      exact Prod.ext (by show _ = _; omega) rfl
    · have k' := k
      unfold tl at k'
      refine bad (by unfold decR; rw [if_neg hn, if_neg c0, if_neg (by omega), if_neg (by omega), if_neg k]) ?_
      unfold decodeN
      rw [if_neg c0, if_neg (by omega), if_neg (by omega)]
      by_cases k2 : b0 / 8 = 30 ∧ (1 < n ∧ b1 / 64 = 2) ∧ (2 < n ∧ b2 / 64 = 2) ∧ (3 < n ∧ b3 / 64 = 2)
      · rw [if_pos k2, if_neg (by omega)]
      · rw [if_neg k2]
def byt (l : List UInt8) (i : Nat) : Nat := (l.getD i 0).toNat
theorem byt_lt (l : List UInt8) (i : Nat) : byt l i < 256 := UInt8.toNat_lt _
def dec (l : List UInt8) : Nat × Nat := decR l.length (byt l 0) (byt l 1) (byt l 2) (byt l 3)
theorem get_byt (l : List UInt8) (i : Nat) : ((⟨l.toArray⟩ : ByteArray).get! i).toNat = byt l i := by
  unfold byt
  show (l.toArray[i]!).toNat = _
  by_cases h : i < l.length
  · simp [h, List.getD_eq_getElem?_getD]
  · simp [h, List.getD_eq_getElem?_getD]
    rfl
theorem decodeL_byt (l : List UInt8) : decodeL l = decodeN l.length (byt l 0) (byt l 1) (byt l 2) (byt l 3) := by
  unfold decodeL
  rw [decode_at]
  simp only [Nat.zero_add, get_byt]
  rfl
theorem dec_decodeL (l : List UInt8) (h : l ≠ []) : dec l = if decodeL l = (65533, 1) then (0, 0) else decodeL l := by
  rw [decodeL_byt]
  exact decR_decodeN _ _ _ _ _ (by simpa using h) (byt_lt _ _) (byt_lt _ _) (byt_lt _ _) (byt_lt _ _)
theorem bt_byt (s : ByteArray) (i : Int) : bt s i = (byt s.data.toList i.toNat : Int) := by
  unfold bt byt
  split
  · rename_i h
    have : i.toNat < s.data.toList.length := by rw [Array.length_toList]; exact h
    simp only [List.getD_eq_getElem?_getD, List.getElem?_eq_getElem this, Option.getD_some, Array.getElem_toList]
    rfl
  · rename_i h
    have : s.data.toList.length ≤ i.toNat := by rw [Array.length_toList]; exact Nat.not_lt.1 h
    simp [List.getD_eq_getElem?_getD, List.getElem?_eq_none this]
theorem dec_width (l : List UInt8) : (dec l).2 ≤ 4 ∧ (dec l).2 ≤ l.length ∧ ((dec l).2 = 0 → (dec l).1 = 0) ∧ (dec l).1 ≤ 1114111 := by
  have h0 := byt_lt l 0
  have h1 := byt_lt l 1
  have h2 := byt_lt l 2
  have h3 := byt_lt l 3
  unfold dec decR tl
  repeat' split
  all_goals (refine ⟨?_, ?_, ?_, ?_⟩ <;> first | (simp only; omega) | (intro _; rfl) | (intro h; simp at h))
def validF : Nat → List UInt8 → Bool
  | 0, l => l.isEmpty
  | f + 1, l => if l.isEmpty then true else if (dec l).2 = 0 then false else validF f (l.drop (dec l).2)
theorem validGoD_validF : ∀ (f : Nat) (l : List UInt8), l.length ≤ f → validGoD f l = validF f l
  | 0, l, h => by
    have : l = [] := List.eq_nil_of_length_eq_zero (by omega)
    subst this; rfl
  | f + 1, l, h => by
    by_cases hl : l = []
    · unfold validGoD validF; rw [if_pos hl, if_pos (by simp [hl])]
    · have e := dec_decodeL l hl
      have hw := dec_width l
      have hG : validGoD (f + 1) l = if (decodeL l).1 = 65533 ∧ (decodeL l).2 = 1 then false else validGoD f (l.drop (decodeL l).2) := by
        conv => lhs; unfold validGoD
        rw [if_neg hl]
      have hF : validF (f + 1) l = if (dec l).2 = 0 then false else validF f (l.drop (dec l).2) := by
        conv => lhs; unfold validF
        rw [if_neg (by simpa using hl)]
      rw [hG, hF]
      by_cases hb : decodeL l = (65533, 1)
      · rw [if_pos (by rw [hb]; exact ⟨rfl, rfl⟩), if_pos (by rw [e, if_pos hb])]
      · rw [if_neg hb] at e
        have hpos := decodeL_width l
        rw [if_neg (fun h => hb (Prod.ext h.1 h.2)), if_neg (by rw [e]; omega), e]
        refine validGoD_validF f _ ?_
        rw [List.length_drop]; omega
theorem validD_validF (l : List UInt8) : validD l = validF l.length l := validGoD_validF _ _ (Nat.le_refl _)
end Go.Proofs.YtlejenoibblhnaaDoor.U8
namespace Go.Proofs.YtlejenoibblhnaaDoor.U8
open Go.RowKit Go.Proofs.YtlejenoibblhnaaDoor.A Go.Proofs.YtlejenoibblhnaaDoorW.PrintWords Go.Proofs.YtlejenoibblhnaaDoorW.PrintLast Go.Lib
set_option linter.unusedVariables false
set_option linter.unusedSimpArgs false
theorem w64 {x : Int} (h0 : -9223372036854775808 ≤ x) (h1 : x ≤ 9223372036854775807) : wrap64 x = x := by unfold wrap64; omega
theorem toList_nil (s : ByteArray) : (s.toList = ([] : List UInt8)) ↔ s.size = 0 := by
  rw [ByteArray.toList_eq]
  constructor
  · intro h
    have := data_length s
    rw [h] at this
    exact this.symm
  · intro h
    exact List.eq_nil_of_length_eq_zero (by rw [data_length]; exact h)
theorem tail_tl (s : ByteArray) (i : Nat) (I : Int) (hi : I = i) : caduceusref02_tail.f s I = some (decide (tl s.size i (byt s.data.toList i))) := by
  subst hi
  unfold caduceusref02_tail.f
  have e := bt_byt s (i : Int)
  rw [Int.toNat_natCast] at e
  rw [e]
  by_cases h : i < s.size
  · rw [if_pos (by omega), if_pos (by omega)]
    by_cases h2 : 128 ≤ byt s.data.toList i
    · rw [if_pos (by omega)]
      exact congrArg some (by rw [decide_eq_decide]; unfold tl; omega)
    · rw [if_neg (by omega)]
      exact congrArg some (decide_eq_false (by unfold tl; omega)).symm
  · rw [if_neg (by omega)]
    exact congrArg some (decide_eq_false (by unfold tl; omega)).symm
theorem V3 (x0 x1 x2 : Nat) (a : 224 ≤ x0 ∧ x0 < 240) (b : 128 ≤ x1 ∧ x1 < 192) (c : 128 ≤ x2 ∧ x2 < 192) : wrap64 ((wrap64 ((wrap64 ((wrap64 (4096 * (wrap64 ((x0 : Int) - 224)))) + (wrap64 (64 * (wrap64 ((x1 : Int) - 128)))))) + (x2 : Int))) - 128) = ((4096 * (x0 - 224) + 64 * (x1 - 128) + (x2 - 128) : Nat) : Int) := by
  rw [w64 (x := (x0 : Int) - 224) (by omega) (by omega), w64 (x := (x1 : Int) - 128) (by omega) (by omega), w64 (x := 4096 * ((x0 : Int) - 224)) (by omega) (by omega), w64 (x := 64 * ((x1 : Int) - 128)) (by omega) (by omega), w64 (x := 4096 * ((x0 : Int) - 224) + 64 * ((x1 : Int) - 128)) (by omega) (by omega), w64 (x := 4096 * ((x0 : Int) - 224) + 64 * ((x1 : Int) - 128) + x2) (by omega) (by omega), w64 (by omega) (by omega)]
  omega
theorem V4 (x0 x1 x2 x3 : Nat) (a : 240 ≤ x0 ∧ x0 < 245) (b : 128 ≤ x1 ∧ x1 < 192) (c : 128 ≤ x2 ∧ x2 < 192) (d : 128 ≤ x3 ∧ x3 < 192) : wrap64 ((wrap64 ((wrap64 ((wrap64 ((wrap64 (262144 * (wrap64 ((x0 : Int) - 240)))) + (wrap64 (4096 * (wrap64 ((x1 : Int) - 128)))))) + (wrap64 (64 * (wrap64 ((x2 : Int) - 128)))))) + (x3 : Int))) - 128) = ((262144 * (x0 - 240) + 4096 * (x1 - 128) + 64 * (x2 - 128) + (x3 - 128) : Nat) : Int) := by
  rw [w64 (x := (x0 : Int) - 240) (by omega) (by omega), w64 (x := (x1 : Int) - 128) (by omega) (by omega), w64 (x := (x2 : Int) - 128) (by omega) (by omega), w64 (x := 262144 * ((x0 : Int) - 240)) (by omega) (by omega), w64 (x := 4096 * ((x1 : Int) - 128)) (by omega) (by omega), w64 (x := 64 * ((x2 : Int) - 128)) (by omega) (by omega), w64 (x := 262144 * ((x0 : Int) - 240) + 4096 * ((x1 : Int) - 128)) (by omega) (by omega), w64 (x := 262144 * ((x0 : Int) - 240) + 4096 * ((x1 : Int) - 128) + 64 * ((x2 : Int) - 128)) (by omega) (by omega), w64 (x := 262144 * ((x0 : Int) - 240) + 4096 * ((x1 : Int) - 128) + 64 * ((x2 : Int) - 128) + x3) (by omega) (by omega), w64 (by omega) (by omega)]
  omega
theorem first_dec (s : ByteArray) (k : Nat) : caduceusref02_First.f (k + 5) s = some (((dec s.data.toList).1 : Int), ((dec s.data.toList).2 : Int)) := by
  have e0 : bt s 0 = byt s.data.toList 0 := bt_byt s 0
  have e1 : bt s 1 = byt s.data.toList 1 := bt_byt s 1
  have e2 : bt s 2 = byt s.data.toList 2 := bt_byt s 2
  have e3 : bt s 3 = byt s.data.toList 3 := bt_byt s 3
  have b0 := byt_lt s.data.toList 0
  have b1 := byt_lt s.data.toList 1
  have b2 := byt_lt s.data.toList 2
  have b3 := byt_lt s.data.toList 3
  have t1 := tail_tl s 1 1 rfl
  have t2 := tail_tl s 2 2 rfl
  have t3 := tail_tl s 3 3 rfl
  unfold dec
  rw [data_length]
  simp only [caduceusref02_First.f, caduceusref02_First.j0, caduceusref02_First.j1, caduceusref02_First.j2, caduceusref02_First.j3, t1, t2, t3, e0, e1, e2, e3, toList_nil, Option.bind_some, decide_eq_true_eq]
  clear e0 e1 e2 e3 t1 t2 t3
  generalize byt s.data.toList 0 = x0 at *
  generalize byt s.data.toList 1 = x1 at *
  generalize byt s.data.toList 2 = x2 at *
  generalize byt s.data.toList 3 = x3 at *
  generalize s.size = n at *
  have w0 : wrap64 (x0 : Int) = x0 := w64 (by omega) (by omega)
  have w1 : wrap64 (x1 : Int) = x1 := w64 (by omega) (by omega)
  have w2 : wrap64 (x2 : Int) = x2 := w64 (by omega) (by omega)
  have w3 : wrap64 (x3 : Int) = x3 := w64 (by omega) (by omega)
  simp only [w0, w1, w2, w3]
  clear w0 w1 w2 w3
  by_cases c : n = 0
  · rw [if_pos c]; unfold decR; rw [if_pos c]; rfl
  rw [if_neg c, if_pos (by omega)]
  by_cases c0 : x0 < 128
  · rw [if_pos (by omega)]; unfold decR; rw [if_neg c, if_pos c0]; rfl
  rw [if_neg (by omega)]
  by_cases c2 : x0 < 224
  · have n1 : ¬ (224 : Int) ≤ x0 := by omega
    have n2 : ¬ (240 : Int) ≤ x0 := by omega
    have n3 : (x0 : Int) < 224 := by omega
    by_cases k : 194 ≤ x0 ∧ tl n 1 x1
    · have k' := k.2
      unfold tl at k'
      have hR : decR n x0 x1 x2 x3 = (64 * (x0 - 192) + (x1 - 128), 2) := by
        unfold decR; rw [if_neg c, if_neg c0, if_pos ⟨k.1, c2, k.2⟩]
      rw [hR, if_pos (by omega), if_pos (by omega), if_pos k.2, if_pos (by omega)]
      rw [w64 (by omega) (by omega : ((x0 : Int) - 192) ≤ _), w64 (x := 64 * ((x0 : Int) - 192)) (by omega) (by omega), w64 (x := 64 * ((x0 : Int) - 192) + x1) (by omega) (by omega), w64 (x := 64 * ((x0 : Int) - 192) + x1 - 128) (by omega) (by omega)]
      exact congrArg some (Prod.ext (by show _ = _; simp only; omega) rfl)
    · have hR : decR n x0 x1 x2 x3 = (0, 0) := by
        unfold decR; rw [if_neg c, if_neg c0, if_neg (fun h => k ⟨h.1, h.2.2⟩), if_neg (fun h => absurd h.1 (by omega)), if_neg (fun h => absurd h.1 (by omega))]
      rw [hR]
      by_cases h1 : (194 : Int) ≤ x0
      · have h2 : ¬ tl n 1 x1 := fun h => k ⟨by omega, h⟩
        simp only [ge_iff_le, h1, h2, n1, n2, n3, if_true, if_false, Bool.false_eq_true]
        rfl
      · simp only [ge_iff_le, h1, n1, n2, if_true, if_false, Bool.false_eq_true]
        rfl
  have n0 : (194 : Int) ≤ x0 := by omega
  have n1 : (224 : Int) ≤ x0 := by omega
  have n3 : ¬ (x0 : Int) < 224 := by omega
  by_cases c3 : x0 < 240
  · have n2 : ¬ (240 : Int) ≤ x0 := by omega
    have n4 : (x0 : Int) < 240 := by omega
    simp only [ge_iff_le, n0, n1, n2, n3, n4, if_true, if_false, Bool.false_eq_true]
    by_cases k : tl n 1 x1 ∧ tl n 2 x2
    · have k1 := k.1
      have k2 := k.2
      unfold tl at k1 k2
      simp only [k.1, k.2, if_true]
      rw [if_pos (by omega), if_pos (by omega), V3 x0 x1 x2 (by omega) k1.2 k2.2]
      by_cases q : 2048 ≤ 4096 * (x0 - 224) + 64 * (x1 - 128) + (x2 - 128) ∧ (4096 * (x0 - 224) + 64 * (x1 - 128) + (x2 - 128) < 55296 ∨ 57343 < 4096 * (x0 - 224) + 64 * (x1 - 128) + (x2 - 128))
      · have hR : decR n x0 x1 x2 x3 = (4096 * (x0 - 224) + 64 * (x1 - 128) + (x2 - 128), 3) := by
          unfold decR; rw [if_neg c, if_neg c0, if_neg (by omega), if_pos ⟨by omega, c3, k.1, k.2, q⟩]
        rw [hR, if_pos (by omega)]
        by_cases q2 : 4096 * (x0 - 224) + 64 * (x1 - 128) + (x2 - 128) < 55296
        · rw [if_pos (by omega)]; rfl
        · rw [if_neg (by omega), if_pos (by omega)]; rfl
      · have hR : decR n x0 x1 x2 x3 = (0, 0) := by
          unfold decR; rw [if_neg c, if_neg c0, if_neg (by omega), if_neg (fun h => q h.2.2.2.2), if_neg (by omega)]
        rw [hR]
        by_cases q2 : 2048 ≤ 4096 * (x0 - 224) + 64 * (x1 - 128) + (x2 - 128)
        · rw [if_pos (by omega), if_neg (by omega), if_neg (by omega)]; rfl
        · rw [if_neg (by omega)]; rfl
    · have hR : decR n x0 x1 x2 x3 = (0, 0) := by
        unfold decR; rw [if_neg c, if_neg c0, if_neg (by omega), if_neg (fun h => k ⟨h.2.2.1, h.2.2.2.1⟩), if_neg (by omega)]
      rw [hR]
      by_cases h1 : tl n 1 x1
      · have h2 : ¬ tl n 2 x2 := fun h => k ⟨h1, h⟩
        simp only [h1, h2, if_true, if_false]; rfl
      · simp only [h1, if_true, if_false, Bool.false_eq_true]; rfl
  have n2 : (240 : Int) ≤ x0 := by omega
  have n4 : ¬ (x0 : Int) < 240 := by omega
  simp only [ge_iff_le, n0, n1, n2, n3, n4, if_true, if_false, Bool.false_eq_true]
  by_cases c4 : x0 < 245
  · have n5 : (x0 : Int) < 245 := by omega
    simp only [n5, if_true]
    by_cases k : tl n 1 x1 ∧ tl n 2 x2 ∧ tl n 3 x3
    · have k1 := k.1
      have k2 := k.2.1
      have k3 := k.2.2
      unfold tl at k1 k2 k3
      simp only [k.1, k.2.1, k.2.2, if_true]
      rw [if_pos (by omega), if_pos (by omega), if_pos (by omega), V4 x0 x1 x2 x3 (by omega) k1.2 k2.2 k3.2]
      by_cases q : 65536 ≤ 262144 * (x0 - 240) + 4096 * (x1 - 128) + 64 * (x2 - 128) + (x3 - 128) ∧ 262144 * (x0 - 240) + 4096 * (x1 - 128) + 64 * (x2 - 128) + (x3 - 128) ≤ 1114111
      · have hR : decR n x0 x1 x2 x3 = (262144 * (x0 - 240) + 4096 * (x1 - 128) + 64 * (x2 - 128) + (x3 - 128), 4) := by
          unfold decR; rw [if_neg c, if_neg c0, if_neg (by omega), if_neg (by omega), if_pos ⟨by omega, c4, k.1, k.2.1, k.2.2, q⟩]
        rw [hR, if_pos (by omega), if_pos (by omega)]; rfl
      · have hR : decR n x0 x1 x2 x3 = (0, 0) := by
          unfold decR; rw [if_neg c, if_neg c0, if_neg (by omega), if_neg (by omega), if_neg (fun h => q h.2.2.2.2.2)]
        rw [hR]
        by_cases q2 : 65536 ≤ 262144 * (x0 - 240) + 4096 * (x1 - 128) + 64 * (x2 - 128) + (x3 - 128)
        · rw [if_pos (by omega), if_neg (by omega)]; rfl
        · rw [if_neg (by omega)]; rfl
    · have hR : decR n x0 x1 x2 x3 = (0, 0) := by
        unfold decR; rw [if_neg c, if_neg c0, if_neg (by omega), if_neg (by omega), if_neg (fun h => k ⟨h.2.2.1, h.2.2.2.1, h.2.2.2.2.1⟩)]
      rw [hR]
      by_cases h1 : tl n 1 x1
      · by_cases h2 : tl n 2 x2
        · have h3 : ¬ tl n 3 x3 := fun h => k ⟨h1, h2, h⟩
          simp only [h1, h2, h3, if_true, if_false]; rfl
        · simp only [h1, h2, if_true, if_false, Bool.false_eq_true]; rfl
      · simp only [h1, if_true, if_false, Bool.false_eq_true]; rfl
  · have n5 : ¬ (x0 : Int) < 245 := by omega
    have hR : decR n x0 x1 x2 x3 = (0, 0) := by
      unfold decR; rw [if_neg c, if_neg c0, if_neg (by omega), if_neg (by omega), if_neg (by omega)]
    rw [hR]
    simp only [n5, if_false, Bool.false_eq_true]; rfl
theorem extract_toList (s : ByteArray) (i : Nat) : (s.extract i s.size).data.toList = s.data.toList.drop i := by
  have e : s.size = s.data.toList.length := (Array.length_toList).symm
  rw [ByteArray.data_extract, Array.toList_extract, e]
  simp [List.extract]
  exact List.take_of_length_le (by rw [List.length_drop]; omega)
theorem valid_l0 (s : ByteArray) (hs : s.size < 1000000) (k : Nat) : ∀ (m i : Nat), i ≤ s.size → s.size - i ≤ m → caduceusref02_Valid.l0 (k + m + 6) s i = some (validF m (s.data.toList.drop i))
  | m, i, h1, h2 => by
    by_cases hi : i = s.size
    · have e : s.data.toList.drop i = [] := List.drop_of_length_le (by rw [data_length]; omega)
      have hf : validF m [] = true := by cases m <;> rfl
      rw [e, hf]
      show caduceusref02_Valid.l0 (k + m + 5 + 1) s i = _
      simp only [caduceusref02_Valid.l0]
      rw [if_neg (by omega)]
    · obtain ⟨m, rfl⟩ : ∃ q, m = q + 1 := ⟨m - 1, by omega⟩
      have hl : (s.data.toList.drop i).length = s.size - i := by rw [List.length_drop, data_length]
      have hne : ¬ ((s.data.toList.drop i).isEmpty = true) := by
        intro h; rw [List.isEmpty_iff] at h; rw [h] at hl; simp at hl; omega
      have hw := dec_width (s.data.toList.drop i)
      have hf := first_dec (s.extract i s.size) (k + m + 1)
      rw [extract_toList] at hf
      show caduceusref02_Valid.l0 (k + m + 6 + 1) s i = _
      rw [caduceusref02_Valid.l0]
      rw [if_pos (by omega), if_pos (by omega), if_pos (by omega), Int.toNat_natCast, show k + m + 6 = k + m + 1 + 5 by omega, hf]
      simp only [Option.bind_some]
      by_cases hz : (dec (s.data.toList.drop i)).2 = 0
      · rw [if_pos (by omega)]
        unfold validF
        rw [if_neg hne, if_pos hz]
      · rw [if_neg (by omega), w64 (by omega) (by omega)]
        have hv := valid_l0 s hs k m (i + (dec (s.data.toList.drop i)).2) (by omega) (by omega)
        rw [show ((i : Int) + ((dec (s.data.toList.drop i)).2 : Int)) = ((i + (dec (s.data.toList.drop i)).2 : Nat) : Int) by omega, show k + m + 1 + 5 = k + m + 6 by omega, hv]
        conv => rhs; unfold validF
        rw [if_neg hne, if_neg hz, List.drop_drop]
theorem valid_ev (s : ByteArray) (hs : s.size < 1000000) (k : Nat) (hk : s.size + 6 ≤ k) : caduceusref02_Valid.f k s = some (validD s.data.toList) := by
  have h := valid_l0 s hs (k - s.size - 6) s.size 0 (by omega) (by omega)
  rw [validD_validF, data_length]
  unfold caduceusref02_Valid.f
  rw [show k - s.size - 6 + s.size + 6 = k by omega] at h
  exact h
end Go.Proofs.YtlejenoibblhnaaDoor.U8
namespace Go.Proofs.YtlejenoibblhnaaDoor.Pure
open Go.RowKit Go.Proofs.YtlejenoibblhnaaDoor.A Go.Proofs.YtlejenoibblhnaaDoor.U8 Go.Proofs.YtlejenoibblhnaaDoorW.PrintWords Go.Proofs.YtlejenoibblhnaaDoorW.PrintLast
set_option linter.unusedSimpArgs false
set_option maxRecDepth 100000 in
theorem awake_true : caduceuslaw03_awake.f 60 = some true := by decide +kernel
theorem awake_ev (k : Nat) (h : 60 ≤ k) : caduceuslaw03_awake.f k = some true := at_rounds (fun k => caduceuslaw03_awake.mono k) h awake_true
end Go.Proofs.YtlejenoibblhnaaDoor.Pure
namespace Go.Proofs.YtlejenoibblhnaaDoor.Pure
open Go.RowKit Go.Proofs.YtlejenoibblhnaaDoor.A Go.Proofs.YtlejenoibblhnaaDoor.U8 Go.Proofs.YtlejenoibblhnaaDoorW.PrintWords Go.Proofs.YtlejenoibblhnaaDoorW.PrintLast
set_option linter.unusedSimpArgs false
set_option maxRecDepth 100000 in
theorem check_ev (k : Nat) (hk : 206 ≤ k) (a0 a1 : Int) (a2 : ByteArray) : ∃ b, value_Check.f a0 a1 a2 = some b ∧ caduceusref03_Check.f k a0 a1 a2 = some b := by
  unfold value_Check.f caduceusref03_Check.f
  by_cases hs : (a2.size : Int) ≤ 200
  · rw [valid_ev a2 (by omega) k (by omega)]
    have : utf8_ValidString.f a2 = some (Go.Lib.validD a2.data.toList) := by
      unfold utf8_ValidString.f; rw [if_pos (by omega)]
    rw [this]
    simp only [Option.bind_some]
    repeat' split
    all_goals exact ⟨_, rfl, rfl⟩
  · simp only [hs, if_false]
    repeat' split
    all_goals exact ⟨_, rfl, rfl⟩
end Go.Proofs.YtlejenoibblhnaaDoor.Pure
namespace Go.Proofs.YtlejenoibblhnaaDoor.Pure
open Go.RowKit Go.Proofs.YtlejenoibblhnaaDoor.A Go.Proofs.YtlejenoibblhnaaDoor.U8 Go.Proofs.YtlejenoibblhnaaDoorW.PrintWords Go.Proofs.YtlejenoibblhnaaDoorW.PrintLast
set_option linter.unusedVariables false
theorem ValueAny (a0 a1 : Int) (a2 : ByteArray) : ∃ k, caduceuslaw03_ValueAny.f k a0 a1 a2 = some true := by
  refine ⟨206, ?_⟩
  obtain ⟨b, h, _⟩ := check_ev 206 (Nat.le_refl _) a0 a1 a2
  unfold caduceuslaw03_ValueAny.f caduceuslaw03_few.f
  rw [Option.bind_some, h, Option.bind_some, awake_ev 206 (by omega), Option.bind_some, if_pos rfl]
end Go.Proofs.YtlejenoibblhnaaDoor.Pure
