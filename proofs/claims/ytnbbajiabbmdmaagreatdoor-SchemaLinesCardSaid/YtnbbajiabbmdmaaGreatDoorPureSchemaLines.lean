import Derived.Lib.DecodeNEq
import Derived.Lib.ValidU
import Derived.Test.YtnbbajiabbmdmaaGreatDoorAx0
import Derived.Test.YtnbbajiabbmdmaaGreatDoorAx4
import Derived.Test.YtnbbajiabbmdmaaGreatDoorAx5
import Derived.Test.YtnbbajiabbmdmaaGreatDoorAx6
import Derived.Test.YtnbbajiabbmdmaaGreatDoorAx7
import Derived.Test.YtnbbajiabbmdmaaGreatDoorAx11
import Derived.Test.YtnbbajiabbmdmaaGreatDoorAx12
import Derived.Test.YtnbbajiabbmdmaaGreatDoorAx13
import Derived.Test.YtnbbajiabbmdmaaGreatDoorAx15
import Derived.Test.YtnbbajiabbmdmaaGreatDoorAx25
import Derived.Test.YtnbbajiabbmdmaaGreatDoorAx26
import Derived.Test.YtnbbajiabbmdmaaGreatDoorAx27
import Derived.Test.YtnbbajiabbmdmaaGreatDoorAx28
import Derived.Test.YtnbbajiabbmdmaaGreatDoorAx29
import Derived.Test.YtnbbajiabbmdmaaGreatDoorAx30
import Derived.Test.YtnbbajiabbmdmaaGreatDoorAx31
import Derived.Test.YtnbbajiabbmdmaaGreatDoorAx32
import Derived.Test.YtnbbajiabbmdmaaGreatDoorAx33
import Derived.Test.YtnbbajiabbmdmaaGreatDoorAx40
import Derived.Test.YtnbbajiabbmdmaaGreatDoorAx41
import Derived.Test.YtnbbajiabbmdmaaGreatDoorAx42
namespace Go.Proofs.YtnbbajiabbmdmaaGreatDoor.U8
open Go.RowKit Go.Proofs.YtnbbajiabbmdmaaGreatDoor.A Go.Proofs.YtnbbajiabbmdmaaGreatDoorW.PrintWords Go.Proofs.YtnbbajiabbmdmaaGreatDoorW.PrintLast Go.Lib
set_option linter.unusedVariables false
/-- What a function comes to, with enough rounds. -/
def Evn {α : Type} (g : Nat → Option α) (v : α) : Prop := ∃ K, ∀ k, K ≤ k → g k = some v
theorem Evn.of {α : Type} {g : Nat → Option α} {v : α} (K : Nat) (h : ∀ k, K ≤ k → g k = some v) : Evn g v := ⟨K, h⟩
theorem Evn.of1 {α : Type} {g : Nat → Option α} {v : α} (h : ∀ k, g (k + 1) = some v) : Evn g v := ⟨1, fun k hk => by
  obtain ⟨j, rfl⟩ : ∃ j, k = j + 1 := ⟨k - 1, by omega⟩
  exact h j⟩
theorem Evn.ret {α : Type} (v : α) : Evn (fun _ => some v) v := ⟨0, fun _ _ => rfl⟩
theorem Evn.con {α : Type} {o : Option α} {v : α} (h : o = some v) : Evn (fun _ => o) v := ⟨0, fun _ _ => h⟩
theorem Evn.step {α : Type} {g g' : Nat → Option α} {v : α} (e : ∀ k, g (k + 1) = g' k) (h : Evn g' v) : Evn g v := by
  obtain ⟨K, h⟩ := h
  refine ⟨K + 1, fun k hk => ?_⟩
  obtain ⟨j, rfl⟩ : ∃ j, k = j + 1 := ⟨k - 1, by omega⟩
  exact (e j).trans (h j (by omega))
theorem Evn.val {α : Type} {g : Nat → Option α} {v v' : α} (e : v = v') (h : Evn g v) : Evn g v' := e ▸ h
theorem Evn.pos {α : Type} {c : Prop} [Decidable c] {a b : Nat → Option α} {v : α} (hc : c) (h : Evn a v) : Evn (fun k => if c then a k else b k) v := by
  obtain ⟨K, h⟩ := h
  exact ⟨K, fun k hk => (if_pos hc).trans (h k hk)⟩
theorem Evn.neg {α : Type} {c : Prop} [Decidable c] {a b : Nat → Option α} {v : α} (hc : ¬ c) (h : Evn b v) : Evn (fun k => if c then a k else b k) v := by
  obtain ⟨K, h⟩ := h
  exact ⟨K, fun k hk => (if_neg hc).trans (h k hk)⟩
theorem Evn.ite {α : Type} {c : Prop} [Decidable c] {a b : Nat → Option α} {v : α} (h1 : c → Evn a v) (h2 : ¬ c → Evn b v) : Evn (fun k => if c then a k else b k) v := by
  by_cases h : c
  · exact Evn.pos h (h1 h)
  · exact Evn.neg h (h2 h)
theorem Evn.bind {α β : Type} {g : Nat → Option α} {u : α} {h : Nat → α → Option β} {v : β} (hg : Evn g u) (hh : Evn (fun k => h k u) v) : Evn (fun k => (g k).bind (h k)) v := by
  obtain ⟨K, hg⟩ := hg
  obtain ⟨L, hh⟩ := hh
  refine ⟨K + L, fun k hk => ?_⟩
  show (g k).bind (h k) = some v
  rw [hg k (by omega), Option.bind_some]
  exact hh k (by omega)
theorem Evn.bc {α β : Type} {o : Option α} {u : α} {h : Nat → α → Option β} {v : β} (hg : o = some u) (hh : Evn (fun k => h k u) v) : Evn (fun k => o.bind (h k)) v := Evn.bind (Evn.con hg) hh
theorem Evn.get {α : Type} {g : Nat → Option α} {v : α} (h : Evn g v) : ∃ k, g k = some v := let ⟨K, h⟩ := h; ⟨K, h K (Nat.le_refl _)⟩
theorem w1p {α : Type} (pre : List α) (x : α) (h : pre.length < 4000000000000000000) : wrap64 ((pre.length : Int) + 1) = ((pre ++ [x]).length : Int) := by
  have e : (pre ++ [x]).length = pre.length + 1 := by rw [List.length_append]; rfl
  rw [e]; unfold wrap64; omega
theorem w1m {α : Type} (pre : List α) (x : α) (h : pre.length < 4000000000000000000) : wrap64 (((pre ++ [x]).length : Int) - 1) = (pre.length : Int) := by
  have e : (pre ++ [x]).length = pre.length + 1 := by rw [List.length_append]; rfl
  rw [e]; unfold wrap64; omega
theorem snocLen {α : Type} (pre : List α) (x : α) : (pre ++ [x]).length = pre.length + 1 := by rw [List.length_append]; rfl
theorem ltp {α : Type} (pre : List α) (x : α) (post : List α) : (pre.length : Int) < ((pre ++ x :: post).length : Int) := by
  rw [List.length_append, List.length_cons]; omega
theorem getDp {α : Type} (pre : List α) (x : α) (post : List α) (z : α) : (pre ++ x :: post).getD ((pre.length : Int)).toNat z = x := by
  rw [Int.toNat_natCast, List.getD_eq_getElem?_getD, List.getElem?_append_right (Nat.le_refl _), Nat.sub_self]; rfl
theorem getDq {α : Type} (pre : List α) (y : α) (post : List α) (z : α) : ((pre ++ [y]) ++ post).getD ((pre.length : Int)).toNat z = y := by
  rw [List.append_assoc]; exact getDp pre y post z
theorem getDm {α β : Type} (f : α → β) (pre : List α) (x : α) (post : List α) (z : β) : ((pre ++ x :: post).map f).getD ((pre.length : Int)).toNat z = f x := by
  rw [List.map_append, List.map_cons, Int.toNat_natCast, List.getD_eq_getElem?_getD, List.getElem?_append_right (by rw [List.length_map]; exact Nat.le_refl _), List.length_map, Nat.sub_self]; rfl
/-- A loop over the places of a list, of any length. -/
theorem Evn.loopS {α β : Type} {g : Nat → Int → Option β} (l : List α) (I : List α → Prop) (S : List α → List α → β)
    (h0 : I l → ¬ (l.length : Int) < (l.length : Int) → Evn (fun k => g k (l.length : Int)) (S l []))
    (hs : ∀ pre x post, l = pre ++ x :: post → I pre → (pre.length : Int) < (l.length : Int) → 0 ≤ (pre.length : Int) → (pre.length < 4000000000000000000 → wrap64 ((pre.length : Int) + 1) = ((pre ++ [x]).length : Int)) → (∀ z, l.getD ((pre.length : Int)).toNat z = x) → x ∈ l →
      (I (pre ++ [x]) → Evn (fun k => g k ((pre ++ [x]).length : Int)) (S (pre ++ [x]) post)) → Evn (fun k => g k (pre.length : Int)) (S pre (x :: post))) :
    ∀ (post pre : List α), l = pre ++ post → I pre → Evn (fun k => g k (pre.length : Int)) (S pre post)
  | [], pre, e, hi => by
    rw [List.append_nil] at e
    subst e
    exact h0 hi (by omega)
  | x :: post, pre, e, hi => by
    have hlt : (pre.length : Int) < (l.length : Int) := by rw [e]; exact ltp pre x post
    exact hs pre x post e hi hlt (Int.natCast_nonneg _) (fun hb => w1p pre x hb) (fun z => by rw [e]; exact getDp pre x post z) (by rw [e]; simp)
      (fun hi' => Evn.loopS l I S h0 hs post (pre ++ [x]) (by rw [e, List.append_assoc]; rfl) hi')
/-- A loop over the places of a list. -/
theorem Evn.loop {α β : Type} {g : Nat → Int → Option β} (l : List α) (hl : l.length < 4000000000000000000) (I : List α → Prop) (S : List α → List α → β)
    (h0 : I l → ¬ (l.length : Int) < (l.length : Int) → Evn (fun k => g k (l.length : Int)) (S l []))
    (hs : ∀ pre x post, l = pre ++ x :: post → I pre → (pre.length : Int) < (l.length : Int) → 0 ≤ (pre.length : Int) → wrap64 ((pre.length : Int) + 1) = ((pre ++ [x]).length : Int) → (∀ z, l.getD ((pre.length : Int)).toNat z = x) → x ∈ l →
      (I (pre ++ [x]) → Evn (fun k => g k ((pre ++ [x]).length : Int)) (S (pre ++ [x]) post)) → Evn (fun k => g k (pre.length : Int)) (S pre (x :: post))) :
    ∀ (post pre : List α), l = pre ++ post → I pre → Evn (fun k => g k (pre.length : Int)) (S pre post) :=
  Evn.loopS l I S h0 (fun pre x post e hi h1 h2 h3 h4 h5 h6 => hs pre x post e hi h1 h2 (h3 (by omega)) h4 h5 h6)
end Go.Proofs.YtnbbajiabbmdmaaGreatDoor.U8
namespace Go.Proofs.YtnbbajiabbmdmaaGreatDoor.U8
open Go.RowKit Go.Proofs.YtnbbajiabbmdmaaGreatDoorW.PrintWords Go.Proofs.YtnbbajiabbmdmaaGreatDoorW.PrintLast Go.Lib
set_option linter.unusedVariables false
/-- Is a byte one that goes on? -/
def tl (n i b : Nat) : Prop := i < n ∧ 128 ≤ b ∧ b < 192
instance (n i b : Nat) : Decidable (tl n i b) := by unfold tl; exact inferInstance
/-- The rune at the front, and how many bytes it has; (0, 0): there is none. As the document defines it. -/
def decR (n b0 b1 b2 b3 : Nat) : Nat × Nat :=
  if n = 0 then (0, 0)
  else if b0 < 128 then (b0, 1)
  else if 194 ≤ b0 ∧ b0 < 224 ∧ tl n 1 b1 then (64 * (b0 - 192) + (b1 - 128), 2)
  else if 224 ≤ b0 ∧ b0 < 240 ∧ tl n 1 b1 ∧ tl n 2 b2 ∧ 2048 ≤ 4096 * (b0 - 224) + 64 * (b1 - 128) + (b2 - 128) ∧ (4096 * (b0 - 224) + 64 * (b1 - 128) + (b2 - 128) < 55296 ∨ 57343 < 4096 * (b0 - 224) + 64 * (b1 - 128) + (b2 - 128)) then (4096 * (b0 - 224) + 64 * (b1 - 128) + (b2 - 128), 3)
  else if 240 ≤ b0 ∧ b0 < 245 ∧ tl n 1 b1 ∧ tl n 2 b2 ∧ tl n 3 b3 ∧ 65536 ≤ 262144 * (b0 - 240) + 4096 * (b1 - 128) + 64 * (b2 - 128) + (b3 - 128) ∧ 262144 * (b0 - 240) + 4096 * (b1 - 128) + 64 * (b2 - 128) + (b3 - 128) ≤ 1114111 then (262144 * (b0 - 240) + 4096 * (b1 - 128) + 64 * (b2 - 128) + (b3 - 128), 4)
  else (0, 0)
set_option maxHeartbeats 4000000 in
set_option maxRecDepth 100000 in
theorem decR_decodeN (n b0 b1 b2 b3 : Nat) (hn : n ≠ 0) (h0 : b0 < 256) (h1 : b1 < 256) (h2 : b2 < 256) (h3 : b3 < 256) :
    decR n b0 b1 b2 b3 = if decodeN n b0 b1 b2 b3 = (65533, 1) then (0, 0) else decodeN n b0 b1 b2 b3 := by
  have fin : ∀ X Y : Nat × Nat, decR n b0 b1 b2 b3 = X → decodeN n b0 b1 b2 b3 = Y → (X = if Y = (65533, 1) then (0, 0) else Y) → decR n b0 b1 b2 b3 = if decodeN n b0 b1 b2 b3 = (65533, 1) then (0, 0) else decodeN n b0 b1 b2 b3 := by
    intro X Y e1 e2 e3; rw [e1, e2]; exact e3
  have bad : decR n b0 b1 b2 b3 = (0, 0) → decodeN n b0 b1 b2 b3 = (65533, 1) → decR n b0 b1 b2 b3 = if decodeN n b0 b1 b2 b3 = (65533, 1) then (0, 0) else decodeN n b0 b1 b2 b3 := fun e1 e2 => fin _ _ e1 e2 (by rw [if_pos rfl])
  have good : ∀ X : Nat × Nat, X.2 ≠ 1 ∨ X.1 ≠ 65533 → decR n b0 b1 b2 b3 = X → decodeN n b0 b1 b2 b3 = X → decR n b0 b1 b2 b3 = if decodeN n b0 b1 b2 b3 = (65533, 1) then (0, 0) else decodeN n b0 b1 b2 b3 := fun X h e1 e2 => fin _ _ e1 e2 (by
    rw [if_neg]; intro e; rw [e] at h; simp at h)
  by_cases c0 : b0 < 128
  · exact good (b0, 1) (.inr (by show b0 ≠ 65533; omega)) (by unfold decR; rw [if_neg hn, if_pos c0]) (by unfold decodeN; rw [if_pos c0])
  by_cases c1 : b0 < 192
  · exact bad (by unfold decR; rw [if_neg hn, if_neg c0, if_neg (by omega), if_neg (by omega), if_neg (by omega)]) (by unfold decodeN; rw [if_neg c0, if_neg (by omega), if_neg (by omega), if_neg (by omega)])
  by_cases c2 : b0 < 224
  · by_cases k : 194 ≤ b0 ∧ b0 < 224 ∧ tl n 1 b1
    · have k' := k
      unfold tl at k'
      refine good (64 * (b0 - 192) + (b1 - 128), 2) (.inl (by simp)) (by unfold decR; rw [if_neg hn, if_neg c0, if_pos k]) ?_
      unfold decodeN
      rw [if_neg c0, if_pos (by omega), if_pos (by omega)]
      exact Prod.ext (by show _ = _; omega) rfl
    · have k' := k
      unfold tl at k'
      refine bad (by unfold decR; rw [if_neg hn, if_neg c0, if_neg k, if_neg (by omega), if_neg (by omega)]) ?_
      unfold decodeN
      rw [if_neg c0]
      by_cases k2 : b0 / 32 = 6 ∧ 1 < n ∧ b1 / 64 = 2
      · rw [if_pos k2, if_neg (by omega)]
      · rw [if_neg k2, if_neg (by omega), if_neg (by omega)]
  by_cases c3 : b0 < 240
  · by_cases k : 224 ≤ b0 ∧ b0 < 240 ∧ tl n 1 b1 ∧ tl n 2 b2 ∧ 2048 ≤ 4096 * (b0 - 224) + 64 * (b1 - 128) + (b2 - 128) ∧ (4096 * (b0 - 224) + 64 * (b1 - 128) + (b2 - 128) < 55296 ∨ 57343 < 4096 * (b0 - 224) + 64 * (b1 - 128) + (b2 - 128))
    · have k' := k
      unfold tl at k'
      refine good (4096 * (b0 - 224) + 64 * (b1 - 128) + (b2 - 128), 3) (.inl (by simp)) (by unfold decR; rw [if_neg hn, if_neg c0, if_neg (by omega), if_pos k]) ?_
      unfold decodeN
      rw [if_neg c0, if_neg (by omega), if_pos (by omega), if_pos (by omega)]
      exact Prod.ext (by show _ = _; omega) rfl
    · have k' := k
      unfold tl at k'
      refine bad (by unfold decR; rw [if_neg hn, if_neg c0, if_neg (by omega), if_neg k, if_neg (by omega)]) ?_
      unfold decodeN
      rw [if_neg c0, if_neg (by omega)]
      by_cases k2 : b0 / 16 = 14 ∧ (1 < n ∧ b1 / 64 = 2) ∧ (2 < n ∧ b2 / 64 = 2)
      · rw [if_pos k2, if_neg (by omega)]
      · rw [if_neg k2, if_neg (by omega)]
  · by_cases k : 240 ≤ b0 ∧ b0 < 245 ∧ tl n 1 b1 ∧ tl n 2 b2 ∧ tl n 3 b3 ∧ 65536 ≤ 262144 * (b0 - 240) + 4096 * (b1 - 128) + 64 * (b2 - 128) + (b3 - 128) ∧ 262144 * (b0 - 240) + 4096 * (b1 - 128) + 64 * (b2 - 128) + (b3 - 128) ≤ 1114111
    · have k' := k
      unfold tl at k'
      refine good (262144 * (b0 - 240) + 4096 * (b1 - 128) + 64 * (b2 - 128) + (b3 - 128), 4) (.inl (by simp)) (by unfold decR; rw [if_neg hn, if_neg c0, if_neg (by omega), if_neg (by omega), if_pos k]) ?_
      unfold decodeN
      rw [if_neg c0, if_neg (by omega), if_neg (by omega), if_pos (by omega), if_pos (by omega)]
      exact Prod.ext (by show _ = _; omega) rfl
    · have k' := k
      unfold tl at k'
      refine bad (by unfold decR; rw [if_neg hn, if_neg c0, if_neg (by omega), if_neg (by omega), if_neg k]) ?_
      unfold decodeN
      rw [if_neg c0, if_neg (by omega), if_neg (by omega)]
      by_cases k2 : b0 / 8 = 30 ∧ (1 < n ∧ b1 / 64 = 2) ∧ (2 < n ∧ b2 / 64 = 2) ∧ (3 < n ∧ b3 / 64 = 2)
      · rw [if_pos k2, if_neg (by omega)]
      · rw [if_neg k2]
/-- Byte i of a list, as a number; 0 beyond its end. -/
def byt (l : List UInt8) (i : Nat) : Nat := (l.getD i 0).toNat
theorem byt_lt (l : List UInt8) (i : Nat) : byt l i < 256 := UInt8.toNat_lt _
def dec (l : List UInt8) : Nat × Nat := decR l.length (byt l 0) (byt l 1) (byt l 2) (byt l 3)
theorem get_byt (l : List UInt8) (i : Nat) : ((⟨l.toArray⟩ : ByteArray).get! i).toNat = byt l i := by
  unfold byt
  show (l.toArray[i]!).toNat = _
  by_cases h : i < l.length
  · simp [h, List.getD_eq_getElem?_getD]
  · simp [h, List.getD_eq_getElem?_getD]
    rfl
theorem decodeL_byt (l : List UInt8) : decodeL l = decodeN l.length (byt l 0) (byt l 1) (byt l 2) (byt l 3) := by
  unfold decodeL
  rw [decode_at]
  simp only [Nat.zero_add, get_byt]
  rfl
theorem dec_decodeL (l : List UInt8) (h : l ≠ []) : dec l = if decodeL l = (65533, 1) then (0, 0) else decodeL l := by
  rw [decodeL_byt]
  exact decR_decodeN _ _ _ _ _ (by simpa using h) (byt_lt _ _) (byt_lt _ _) (byt_lt _ _) (byt_lt _ _)
theorem bt_byt (s : ByteArray) (i : Int) : bt s i = (byt s.data.toList i.toNat : Int) := by
  unfold bt byt
  split
  · rename_i h
    have : i.toNat < s.data.toList.length := by rw [Array.length_toList]; exact h
    simp only [List.getD_eq_getElem?_getD, List.getElem?_eq_getElem this, Option.getD_some, Array.getElem_toList]
    rfl
  · rename_i h
    have : s.data.toList.length ≤ i.toNat := by rw [Array.length_toList]; exact Nat.not_lt.1 h
    simp [List.getD_eq_getElem?_getD, List.getElem?_eq_none this]
/-- Its width: none, or one to four, and no more than there are bytes. -/
theorem dec_width (l : List UInt8) : (dec l).2 ≤ 4 ∧ (dec l).2 ≤ l.length ∧ ((dec l).2 = 0 → (dec l).1 = 0) ∧ (dec l).1 ≤ 1114111 := by
  have h0 := byt_lt l 0
  have h1 := byt_lt l 1
  have h2 := byt_lt l 2
  have h3 := byt_lt l 3
  unfold dec decR tl
  repeat' split
  all_goals (refine ⟨?_, ?_, ?_, ?_⟩ <;> first | (simp only; omega) | (intro _; rfl) | (intro h; simp at h))
/-- Is a text UTF-8, from front to end? -/
def validF : Nat → List UInt8 → Bool
  | 0, l => l.isEmpty
  | f + 1, l => if l.isEmpty then true else if (dec l).2 = 0 then false else validF f (l.drop (dec l).2)
theorem validGoD_validF : ∀ (f : Nat) (l : List UInt8), l.length ≤ f → validGoD f l = validF f l
  | 0, l, h => by
    have : l = [] := List.eq_nil_of_length_eq_zero (by omega)
    subst this; rfl
  | f + 1, l, h => by
    by_cases hl : l = []
    · unfold validGoD validF; rw [if_pos hl, if_pos (by simp [hl])]
    · have e := dec_decodeL l hl
      have hw := dec_width l
      have hG : validGoD (f + 1) l = if (decodeL l).1 = 65533 ∧ (decodeL l).2 = 1 then false else validGoD f (l.drop (decodeL l).2) := by
        conv => lhs; unfold validGoD
        rw [if_neg hl]
      have hF : validF (f + 1) l = if (dec l).2 = 0 then false else validF f (l.drop (dec l).2) := by
        conv => lhs; unfold validF
        rw [if_neg (by simpa using hl)]
      rw [hG, hF]
      by_cases hb : decodeL l = (65533, 1)
      · rw [if_pos (by rw [hb]; exact ⟨rfl, rfl⟩), if_pos (by rw [e, if_pos hb])]
      · rw [if_neg hb] at e
        have hpos := decodeL_width l
        rw [if_neg (fun h => hb (Prod.ext h.1 h.2)), if_neg (by rw [e]; omega), e]
        refine validGoD_validF f _ ?_
        rw [List.length_drop]; omega
theorem validD_validF (l : List UInt8) : validD l = validF l.length l := validGoD_validF _ _ (Nat.le_refl _)
end Go.Proofs.YtnbbajiabbmdmaaGreatDoor.U8
namespace Go.Proofs.YtnbbajiabbmdmaaGreatDoor.U8
open Go.RowKit Go.Proofs.YtnbbajiabbmdmaaGreatDoor.A Go.Proofs.YtnbbajiabbmdmaaGreatDoorW.PrintWords Go.Proofs.YtnbbajiabbmdmaaGreatDoorW.PrintLast Go.Lib
set_option linter.unusedVariables false
set_option linter.unusedSimpArgs false
theorem w64 {x : Int} (h0 : -9223372036854775808 ≤ x) (h1 : x ≤ 9223372036854775807) : wrap64 x = x := by unfold wrap64; omega
theorem toList_nil (s : ByteArray) : (s.toList = ([] : List UInt8)) ↔ s.size = 0 := by
  rw [ByteArray.toList_eq]
  constructor
  · intro h
    have := data_length s
    rw [h] at this
    exact this.symm
  · intro h
    exact List.eq_nil_of_length_eq_zero (by rw [data_length]; exact h)
theorem tail_tl (s : ByteArray) (i : Nat) (I : Int) (hi : I = i) : caduceusref02_tail.f s I = some (decide (tl s.size i (byt s.data.toList i))) := by
  subst hi
  unfold caduceusref02_tail.f
  have e := bt_byt s (i : Int)
  rw [Int.toNat_natCast] at e
  rw [e]
  by_cases h : i < s.size
  · rw [if_pos (by omega), if_pos (by omega)]
    by_cases h2 : 128 ≤ byt s.data.toList i
    · rw [if_pos (by omega)]
      exact congrArg some (by rw [decide_eq_decide]; unfold tl; omega)
    · rw [if_neg (by omega)]
      exact congrArg some (decide_eq_false (by unfold tl; omega)).symm
  · rw [if_neg (by omega)]
    exact congrArg some (decide_eq_false (by unfold tl; omega)).symm
theorem V3 (x0 x1 x2 : Nat) (a : 224 ≤ x0 ∧ x0 < 240) (b : 128 ≤ x1 ∧ x1 < 192) (c : 128 ≤ x2 ∧ x2 < 192) : wrap64 ((wrap64 ((wrap64 ((wrap64 (4096 * (wrap64 ((x0 : Int) - 224)))) + (wrap64 (64 * (wrap64 ((x1 : Int) - 128)))))) + (x2 : Int))) - 128) = ((4096 * (x0 - 224) + 64 * (x1 - 128) + (x2 - 128) : Nat) : Int) := by
  rw [w64 (x := (x0 : Int) - 224) (by omega) (by omega), w64 (x := (x1 : Int) - 128) (by omega) (by omega), w64 (x := 4096 * ((x0 : Int) - 224)) (by omega) (by omega), w64 (x := 64 * ((x1 : Int) - 128)) (by omega) (by omega), w64 (x := 4096 * ((x0 : Int) - 224) + 64 * ((x1 : Int) - 128)) (by omega) (by omega), w64 (x := 4096 * ((x0 : Int) - 224) + 64 * ((x1 : Int) - 128) + x2) (by omega) (by omega), w64 (by omega) (by omega)]
  omega
theorem V4 (x0 x1 x2 x3 : Nat) (a : 240 ≤ x0 ∧ x0 < 245) (b : 128 ≤ x1 ∧ x1 < 192) (c : 128 ≤ x2 ∧ x2 < 192) (d : 128 ≤ x3 ∧ x3 < 192) : wrap64 ((wrap64 ((wrap64 ((wrap64 ((wrap64 (262144 * (wrap64 ((x0 : Int) - 240)))) + (wrap64 (4096 * (wrap64 ((x1 : Int) - 128)))))) + (wrap64 (64 * (wrap64 ((x2 : Int) - 128)))))) + (x3 : Int))) - 128) = ((262144 * (x0 - 240) + 4096 * (x1 - 128) + 64 * (x2 - 128) + (x3 - 128) : Nat) : Int) := by
  rw [w64 (x := (x0 : Int) - 240) (by omega) (by omega), w64 (x := (x1 : Int) - 128) (by omega) (by omega), w64 (x := (x2 : Int) - 128) (by omega) (by omega), w64 (x := 262144 * ((x0 : Int) - 240)) (by omega) (by omega), w64 (x := 4096 * ((x1 : Int) - 128)) (by omega) (by omega), w64 (x := 64 * ((x2 : Int) - 128)) (by omega) (by omega), w64 (x := 262144 * ((x0 : Int) - 240) + 4096 * ((x1 : Int) - 128)) (by omega) (by omega), w64 (x := 262144 * ((x0 : Int) - 240) + 4096 * ((x1 : Int) - 128) + 64 * ((x2 : Int) - 128)) (by omega) (by omega), w64 (x := 262144 * ((x0 : Int) - 240) + 4096 * ((x1 : Int) - 128) + 64 * ((x2 : Int) - 128) + x3) (by omega) (by omega), w64 (by omega) (by omega)]
  omega
theorem first_dec (s : ByteArray) (k : Nat) : caduceusref02_First.f (k + 5) s = some (((dec s.data.toList).1 : Int), ((dec s.data.toList).2 : Int)) := by
  have e0 : bt s 0 = byt s.data.toList 0 := bt_byt s 0
  have e1 : bt s 1 = byt s.data.toList 1 := bt_byt s 1
  have e2 : bt s 2 = byt s.data.toList 2 := bt_byt s 2
  have e3 : bt s 3 = byt s.data.toList 3 := bt_byt s 3
  have b0 := byt_lt s.data.toList 0
  have b1 := byt_lt s.data.toList 1
  have b2 := byt_lt s.data.toList 2
  have b3 := byt_lt s.data.toList 3
  have t1 := tail_tl s 1 1 rfl
  have t2 := tail_tl s 2 2 rfl
  have t3 := tail_tl s 3 3 rfl
  unfold dec
  rw [data_length]
  simp only [caduceusref02_First.f, caduceusref02_First.j0, caduceusref02_First.j1, caduceusref02_First.j2, caduceusref02_First.j3, t1, t2, t3, e0, e1, e2, e3, toList_nil, Option.bind_some, decide_eq_true_eq]
  clear e0 e1 e2 e3 t1 t2 t3
  generalize byt s.data.toList 0 = x0 at *
  generalize byt s.data.toList 1 = x1 at *
  generalize byt s.data.toList 2 = x2 at *
  generalize byt s.data.toList 3 = x3 at *
  generalize s.size = n at *
  have w0 : wrap64 (x0 : Int) = x0 := w64 (by omega) (by omega)
  have w1 : wrap64 (x1 : Int) = x1 := w64 (by omega) (by omega)
  have w2 : wrap64 (x2 : Int) = x2 := w64 (by omega) (by omega)
  have w3 : wrap64 (x3 : Int) = x3 := w64 (by omega) (by omega)
  simp only [w0, w1, w2, w3]
  clear w0 w1 w2 w3
  by_cases c : n = 0
  · rw [if_pos c]; unfold decR; rw [if_pos c]; rfl
  rw [if_neg c, if_pos (by omega)]
  by_cases c0 : x0 < 128
  · rw [if_pos (by omega)]; unfold decR; rw [if_neg c, if_pos c0]; rfl
  rw [if_neg (by omega)]
  by_cases c2 : x0 < 224
  · have n1 : ¬ (224 : Int) ≤ x0 := by omega
    have n2 : ¬ (240 : Int) ≤ x0 := by omega
    have n3 : (x0 : Int) < 224 := by omega
    by_cases k : 194 ≤ x0 ∧ tl n 1 x1
    · have k' := k.2
      unfold tl at k'
      have hR : decR n x0 x1 x2 x3 = (64 * (x0 - 192) + (x1 - 128), 2) := by
        unfold decR; rw [if_neg c, if_neg c0, if_pos ⟨k.1, c2, k.2⟩]
      rw [hR, if_pos (by omega), if_pos (by omega), if_pos k.2, if_pos (by omega)]
      rw [w64 (by omega) (by omega : ((x0 : Int) - 192) ≤ _), w64 (x := 64 * ((x0 : Int) - 192)) (by omega) (by omega), w64 (x := 64 * ((x0 : Int) - 192) + x1) (by omega) (by omega), w64 (x := 64 * ((x0 : Int) - 192) + x1 - 128) (by omega) (by omega)]
      exact congrArg some (Prod.ext (by show _ = _; simp only; omega) rfl)
    · have hR : decR n x0 x1 x2 x3 = (0, 0) := by
        unfold decR; rw [if_neg c, if_neg c0, if_neg (fun h => k ⟨h.1, h.2.2⟩), if_neg (fun h => absurd h.1 (by omega)), if_neg (fun h => absurd h.1 (by omega))]
      rw [hR]
      by_cases h1 : (194 : Int) ≤ x0
      · have h2 : ¬ tl n 1 x1 := fun h => k ⟨by omega, h⟩
        simp only [ge_iff_le, h1, h2, n1, n2, n3, if_true, if_false, Bool.false_eq_true]
        rfl
      · simp only [ge_iff_le, h1, n1, n2, if_true, if_false, Bool.false_eq_true]
        rfl
  have n0 : (194 : Int) ≤ x0 := by omega
  have n1 : (224 : Int) ≤ x0 := by omega
  have n3 : ¬ (x0 : Int) < 224 := by omega
  by_cases c3 : x0 < 240
  · have n2 : ¬ (240 : Int) ≤ x0 := by omega
    have n4 : (x0 : Int) < 240 := by omega
    simp only [ge_iff_le, n0, n1, n2, n3, n4, if_true, if_false, Bool.false_eq_true]
    by_cases k : tl n 1 x1 ∧ tl n 2 x2
    · have k1 := k.1
      have k2 := k.2
      unfold tl at k1 k2
      simp only [k.1, k.2, if_true]
      rw [if_pos (by omega), if_pos (by omega), V3 x0 x1 x2 (by omega) k1.2 k2.2]
      by_cases q : 2048 ≤ 4096 * (x0 - 224) + 64 * (x1 - 128) + (x2 - 128) ∧ (4096 * (x0 - 224) + 64 * (x1 - 128) + (x2 - 128) < 55296 ∨ 57343 < 4096 * (x0 - 224) + 64 * (x1 - 128) + (x2 - 128))
      · have hR : decR n x0 x1 x2 x3 = (4096 * (x0 - 224) + 64 * (x1 - 128) + (x2 - 128), 3) := by
          unfold decR; rw [if_neg c, if_neg c0, if_neg (by omega), if_pos ⟨by omega, c3, k.1, k.2, q⟩]
        rw [hR, if_pos (by omega)]
        by_cases q2 : 4096 * (x0 - 224) + 64 * (x1 - 128) + (x2 - 128) < 55296
        · rw [if_pos (by omega)]; rfl
        · rw [if_neg (by omega), if_pos (by omega)]; rfl
      · have hR : decR n x0 x1 x2 x3 = (0, 0) := by
          unfold decR; rw [if_neg c, if_neg c0, if_neg (by omega), if_neg (fun h => q h.2.2.2.2), if_neg (by omega)]
        rw [hR]
        by_cases q2 : 2048 ≤ 4096 * (x0 - 224) + 64 * (x1 - 128) + (x2 - 128)
        · rw [if_pos (by omega), if_neg (by omega), if_neg (by omega)]; rfl
        · rw [if_neg (by omega)]; rfl
    · have hR : decR n x0 x1 x2 x3 = (0, 0) := by
        unfold decR; rw [if_neg c, if_neg c0, if_neg (by omega), if_neg (fun h => k ⟨h.2.2.1, h.2.2.2.1⟩), if_neg (by omega)]
      rw [hR]
      by_cases h1 : tl n 1 x1
      · have h2 : ¬ tl n 2 x2 := fun h => k ⟨h1, h⟩
        simp only [h1, h2, if_true, if_false]; rfl
      · simp only [h1, if_true, if_false, Bool.false_eq_true]; rfl
  have n2 : (240 : Int) ≤ x0 := by omega
  have n4 : ¬ (x0 : Int) < 240 := by omega
  simp only [ge_iff_le, n0, n1, n2, n3, n4, if_true, if_false, Bool.false_eq_true]
  by_cases c4 : x0 < 245
  · have n5 : (x0 : Int) < 245 := by omega
    simp only [n5, if_true]
    by_cases k : tl n 1 x1 ∧ tl n 2 x2 ∧ tl n 3 x3
    · have k1 := k.1
      have k2 := k.2.1
      have k3 := k.2.2
      unfold tl at k1 k2 k3
      simp only [k.1, k.2.1, k.2.2, if_true]
      rw [if_pos (by omega), if_pos (by omega), if_pos (by omega), V4 x0 x1 x2 x3 (by omega) k1.2 k2.2 k3.2]
      by_cases q : 65536 ≤ 262144 * (x0 - 240) + 4096 * (x1 - 128) + 64 * (x2 - 128) + (x3 - 128) ∧ 262144 * (x0 - 240) + 4096 * (x1 - 128) + 64 * (x2 - 128) + (x3 - 128) ≤ 1114111
      · have hR : decR n x0 x1 x2 x3 = (262144 * (x0 - 240) + 4096 * (x1 - 128) + 64 * (x2 - 128) + (x3 - 128), 4) := by
          unfold decR; rw [if_neg c, if_neg c0, if_neg (by omega), if_neg (by omega), if_pos ⟨by omega, c4, k.1, k.2.1, k.2.2, q⟩]
        rw [hR, if_pos (by omega), if_pos (by omega)]; rfl
      · have hR : decR n x0 x1 x2 x3 = (0, 0) := by
          unfold decR; rw [if_neg c, if_neg c0, if_neg (by omega), if_neg (by omega), if_neg (fun h => q h.2.2.2.2.2)]
        rw [hR]
        by_cases q2 : 65536 ≤ 262144 * (x0 - 240) + 4096 * (x1 - 128) + 64 * (x2 - 128) + (x3 - 128)
        · rw [if_pos (by omega), if_neg (by omega)]; rfl
        · rw [if_neg (by omega)]; rfl
    · have hR : decR n x0 x1 x2 x3 = (0, 0) := by
        unfold decR; rw [if_neg c, if_neg c0, if_neg (by omega), if_neg (by omega), if_neg (fun h => k ⟨h.2.2.1, h.2.2.2.1, h.2.2.2.2.1⟩)]
      rw [hR]
      by_cases h1 : tl n 1 x1
      · by_cases h2 : tl n 2 x2
        · have h3 : ¬ tl n 3 x3 := fun h => k ⟨h1, h2, h⟩
          simp only [h1, h2, h3, if_true, if_false]; rfl
        · simp only [h1, h2, if_true, if_false, Bool.false_eq_true]; rfl
      · simp only [h1, if_true, if_false, Bool.false_eq_true]; rfl
  · have n5 : ¬ (x0 : Int) < 245 := by omega
    have hR : decR n x0 x1 x2 x3 = (0, 0) := by
      unfold decR; rw [if_neg c, if_neg c0, if_neg (by omega), if_neg (by omega), if_neg (by omega)]
    rw [hR]
    simp only [n5, if_false, Bool.false_eq_true]; rfl
theorem extract_toList (s : ByteArray) (i : Nat) : (s.extract i s.size).data.toList = s.data.toList.drop i := by
  have e : s.size = s.data.toList.length := (Array.length_toList).symm
  rw [ByteArray.data_extract, Array.toList_extract, e]
  simp [List.extract]
  exact List.take_of_length_le (by rw [List.length_drop]; omega)
theorem valid_l0 (s : ByteArray) (hs : s.size < 1000000) (k : Nat) : ∀ (m i : Nat), i ≤ s.size → s.size - i ≤ m → caduceusref02_Valid.l0 (k + m + 6) s i = some (validF m (s.data.toList.drop i))
  | m, i, h1, h2 => by
    by_cases hi : i = s.size
    · have e : s.data.toList.drop i = [] := List.drop_of_length_le (by rw [data_length]; omega)
      have hf : validF m [] = true := by cases m <;> rfl
      rw [e, hf]
      show caduceusref02_Valid.l0 (k + m + 5 + 1) s i = _
      simp only [caduceusref02_Valid.l0]
      rw [if_neg (by omega)]
    · obtain ⟨m, rfl⟩ : ∃ q, m = q + 1 := ⟨m - 1, by omega⟩
      have hl : (s.data.toList.drop i).length = s.size - i := by rw [List.length_drop, data_length]
      have hne : ¬ ((s.data.toList.drop i).isEmpty = true) := by
        intro h; rw [List.isEmpty_iff] at h; rw [h] at hl; simp at hl; omega
      have hw := dec_width (s.data.toList.drop i)
      have hf := first_dec (s.extract i s.size) (k + m + 1)
      rw [extract_toList] at hf
      show caduceusref02_Valid.l0 (k + m + 6 + 1) s i = _
      rw [caduceusref02_Valid.l0]
      rw [if_pos (by omega), if_pos (by omega), if_pos (by omega), Int.toNat_natCast, show k + m + 6 = k + m + 1 + 5 by omega, hf]
      simp only [Option.bind_some]
      by_cases hz : (dec (s.data.toList.drop i)).2 = 0
      · rw [if_pos (by omega)]
        unfold validF
        rw [if_neg hne, if_pos hz]
      · rw [if_neg (by omega), w64 (by omega) (by omega)]
        have hv := valid_l0 s hs k m (i + (dec (s.data.toList.drop i)).2) (by omega) (by omega)
        rw [show ((i : Int) + ((dec (s.data.toList.drop i)).2 : Int)) = ((i + (dec (s.data.toList.drop i)).2 : Nat) : Int) by omega, show k + m + 1 + 5 = k + m + 6 by omega, hv]
        conv => rhs; unfold validF
        rw [if_neg hne, if_neg hz, List.drop_drop]
theorem valid_ev (s : ByteArray) (hs : s.size < 1000000) (k : Nat) (hk : s.size + 6 ≤ k) : caduceusref02_Valid.f k s = some (validD s.data.toList) := by
  have h := valid_l0 s hs (k - s.size - 6) s.size 0 (by omega) (by omega)
  rw [validD_validF, data_length]
  unfold caduceusref02_Valid.f
  rw [show k - s.size - 6 + s.size + 6 = k by omega] at h
  exact h
theorem byt_drop (l : List UInt8) (i j : Nat) : byt (l.drop i) j = byt l (i + j) := by
  unfold byt
  rw [List.getD_eq_getElem?_getD, List.getD_eq_getElem?_getD, List.getElem?_drop]
theorem size_len (b : ByteArray) : b.size = b.data.toList.length := (Array.length_toList).symm
end Go.Proofs.YtnbbajiabbmdmaaGreatDoor.U8
namespace Go.Proofs.YtnbbajiabbmdmaaGreatDoor.U8
open Go.RowKit Go.Proofs.YtnbbajiabbmdmaaGreatDoor.A Go.Proofs.YtnbbajiabbmdmaaGreatDoorW.PrintWords Go.Proofs.YtnbbajiabbmdmaaGreatDoorW.PrintLast Go.Lib
set_option linter.unusedVariables false
set_option linter.unusedSimpArgs false
theorem get_byt2 (s : ByteArray) (i : Nat) : (s.get! i).toNat = byt s.data.toList i := by
  have := get_byt s.data.toList i
  have e : (⟨s.data.toList.toArray⟩ : ByteArray) = s := by cases s; simp
  rwa [e] at this
theorem decode_drop (s : ByteArray) (i : Nat) : Utf8.decode s i = decodeL (s.data.toList.drop i) := by
  rw [decode_at, decodeL_byt, get_byt2, get_byt2, get_byt2, get_byt2, byt_drop, byt_drop, byt_drop, byt_drop, List.length_drop, ← size_len]
  rfl
theorem decode_dec (s : ByteArray) (i : Nat) (hi : i < s.size) (h : (dec (s.data.toList.drop i)).2 ≠ 0) : Utf8.decode s i = dec (s.data.toList.drop i) := by
  have hne : s.data.toList.drop i ≠ [] := by
    intro e
    have := congrArg List.length e
    rw [List.length_drop, ← size_len] at this
    simp at this
    omega
  rw [decode_drop]
  have e := dec_decodeL _ hne
  by_cases hb : decodeL (s.data.toList.drop i) = (65533, 1)
  · rw [if_pos hb] at e; rw [e] at h; exact absurd rfl h
  · rw [if_neg hb] at e; exact e.symm
/-- The runes of a text, as far as it is UTF-8. -/
def runesF : Nat → List UInt8 → List Nat
  | 0, _ => []
  | f + 1, l => if l.isEmpty then [] else if (dec l).2 = 0 then [] else (dec l).1 :: runesF f (l.drop (dec l).2)
def runesOf (l : List UInt8) : List Nat := runesF l.length l
def ints (l : List Nat) : List Int := l.map (fun x : Nat => (x : Int))
theorem runes_l0 (s : ByteArray) (hs : s.size < 1000000) (k : Nat) : ∀ (m i : Nat) (xs : List Int), i ≤ s.size → s.size - i ≤ m → xs.length ≤ i → caduceusref02_Runes.l0 (k + m + 7) s xs (i : Int) = some (xs ++ ints (runesF m (s.data.toList.drop i)))
  | 0, i, xs, h1, h2, h3 => by
    rw [show k + 0 + 7 = k + 6 + 1 by omega, caduceusref02_Runes.l0, if_neg (by omega)]
    show some xs = some (xs ++ [])
    rw [List.append_nil]
  | m + 1, i, xs, h1, h2, h3 => by
    have hl : (s.data.toList.drop i).length = s.size - i := by rw [List.length_drop, ← size_len]
    rw [show k + (m + 1) + 7 = k + m + 7 + 1 by omega, caduceusref02_Runes.l0, runesF]
    by_cases hi : i = s.size
    · have e : s.data.toList.drop i = [] := List.drop_of_length_le (by rw [← size_len]; omega)
      rw [if_neg (by omega), e]
      show some xs = some (xs ++ [])
      rw [List.append_nil]
    · have hne : ¬ ((s.data.toList.drop i).isEmpty = true) := by
        intro h; rw [List.isEmpty_iff] at h; rw [h] at hl; simp at hl; omega
      have hw := dec_width (s.data.toList.drop i)
      have hf := first_dec (s.extract i s.size) (k + m + 2)
      rw [extract_toList] at hf
      rw [if_neg hne, if_pos (by omega), if_pos (by omega), if_pos (by omega), Int.toNat_natCast, show k + m + 7 = k + m + 2 + 5 by omega, hf, Option.bind_some]
      dsimp only
      by_cases hz : (dec (s.data.toList.drop i)).2 = 0
      · rw [if_pos (by omega), if_pos hz]
        show some xs = some (xs ++ [])
        rw [List.append_nil]
      · rw [if_neg (by omega), if_neg hz, if_pos (by omega), w64 (by omega) (by omega), show ((i : Int) + ((dec (s.data.toList.drop i)).2 : Int)) = ((i + (dec (s.data.toList.drop i)).2 : Nat) : Int) by omega, show k + m + 2 + 5 = k + m + 7 by omega]
        rw [runes_l0 s hs k m (i + (dec (s.data.toList.drop i)).2) _ (by omega) (by omega) (by rw [List.length_append]; show xs.length + 1 ≤ _; omega), List.append_assoc, ← List.drop_drop]
        rfl
theorem runes_ev (s : ByteArray) (hs : s.size < 1000000) (k : Nat) (hk : s.size + 7 ≤ k) : caduceusref02_Runes.f k s = some (ints (runesOf s.data.toList)) := by
  have h := runes_l0 s hs 0 s.size 0 [] (by omega) (by omega) (by simp)
  have h0 : caduceusref02_Runes.f (s.size + 7) s = some (ints (runesOf s.data.toList)) := by
    unfold caduceusref02_Runes.f runesOf
    rw [← size_len]
    rw [show 0 + s.size + 7 = s.size + 7 by omega] at h
    exact h
  exact at_rounds (fun k => caduceusref02_Runes.mono s k) hk h0
end Go.Proofs.YtnbbajiabbmdmaaGreatDoor.U8
namespace Go.Proofs.YtnbbajiabbmdmaaGreatDoor.U8
open Go.RowKit Go.Proofs.YtnbbajiabbmdmaaGreatDoor.A Go.Proofs.YtnbbajiabbmdmaaGreatDoorW.PrintWords Go.Proofs.YtnbbajiabbmdmaaGreatDoorW.PrintLast Go.Lib
set_option linter.unusedVariables false
set_option linter.unusedSimpArgs false
/-- What is decoded is a rune that may be, and is written as it stood there. -/
theorem dec_enc (l : List UInt8) (h : (dec l).2 ≠ 0) : decodeL l = dec l ∧ ((dec l).1 < 55296 ∨ (57343 < (dec l).1 ∧ (dec l).1 ≤ 1114111)) ∧ encodeRune ((dec l).1 : Int) = l.take (dec l).2 ∧ l ≠ [] := by
  have hne : l ≠ [] := by
    rintro rfl
    exact h rfl
  have e := dec_decodeL l hne
  have e2 : ¬ decodeL l = (65533, 1) := fun hh => by rw [if_pos hh] at e; rw [e] at h; exact h rfl
  rw [if_neg e2] at e
  refine ⟨e.symm, ?_, ?_, hne⟩
  · have h0 := byt_lt l 0
    have h1 := byt_lt l 1
    have h2 := byt_lt l 2
    have h3 := byt_lt l 3
    revert h
    unfold dec decR tl
    repeat' split
    all_goals first | (intro h; exact absurd rfl h) | (intro h; simp only; omega)
  · rw [e]
    exact encode_decode l hne (fun hh => e2 (Prod.ext hh.1 hh.2))
/-- A rune that may be. -/
def okC (c : Nat) : Prop := c < 55296 ∨ (57343 < c ∧ c ≤ 1114111)
theorem u8n (n : Nat) (h : n < 256) : (n.toUInt8).toNat = n := by
  show (UInt8.ofNat n).toNat = n
  rw [UInt8.toNat_ofNat']; omega
theorem byt0 (b : UInt8) (l : List UInt8) : byt (b :: l) 0 = b.toNat := rfl
theorem byt1 (a b : UInt8) (l : List UInt8) : byt (a :: b :: l) 1 = b.toNat := rfl
theorem byt2 (a b c : UInt8) (l : List UInt8) : byt (a :: b :: c :: l) 2 = c.toNat := rfl
theorem byt3 (a b c d : UInt8) (l : List UInt8) : byt (a :: b :: c :: d :: l) 3 = d.toNat := rfl
theorem dec_encode (c : Nat) (h : okC c) (l : List UInt8) : dec (encodeRune (c : Int) ++ l) = (c, (encodeRune (c : Int)).length) := by
  unfold okC at h
  unfold encodeRune
  by_cases c1 : c < 128
  · rw [encodeRuneZ_one (by omega) (by omega)]
    simp only [List.map_cons, List.map_nil, List.cons_append, List.nil_append, Int.toNat_natCast]
    unfold dec decR
    rw [byt0, u8n c (by omega), if_neg (by simp), if_pos c1]
    rfl
  by_cases c2 : c < 2048
  · rw [encodeRuneZ_two (by omega) (by omega)]
    simp only [List.map_cons, List.map_nil, List.cons_append, List.nil_append]
    rw [show (192 + (c : Int) / 64).toNat = 192 + c / 64 by omega, show (128 + (c : Int) % 64).toNat = 128 + c % 64 by omega]
    unfold dec decR tl
    rw [byt0, byt1, u8n _ (by omega), u8n _ (by omega), if_neg (by simp), if_neg (by omega), if_pos ⟨by omega, by omega, by simp, by omega, by omega⟩]
    exact Prod.ext (by show 64 * (192 + c / 64 - 192) + (128 + c % 64 - 128) = c; omega) rfl
  by_cases c3 : c < 65536
  · rw [encodeRuneZ_three (by omega)]
    simp only [List.map_cons, List.map_nil, List.cons_append, List.nil_append]
    rw [show (224 + (c : Int) / 4096).toNat = 224 + c / 4096 by omega, show (128 + (c : Int) / 64 % 64).toNat = 128 + c / 64 % 64 by omega, show (128 + (c : Int) % 64).toNat = 128 + c % 64 by omega]
    have e : 4096 * (224 + c / 4096 - 224) + 64 * (128 + c / 64 % 64 - 128) + (128 + c % 64 - 128) = c := by omega
    unfold dec decR tl
    rw [byt0, byt1, byt2, u8n _ (by omega), u8n _ (by omega), u8n _ (by omega), if_neg (by simp), if_neg (by omega), if_neg (by omega), if_pos ⟨by omega, by omega, ⟨by simp, by omega, by omega⟩, ⟨by simp, by omega, by omega⟩, by omega, by omega⟩]
    exact Prod.ext e rfl
  · rw [encodeRuneZ_four (by omega) (by omega)]
    simp only [List.map_cons, List.map_nil, List.cons_append, List.nil_append]
    rw [show (240 + (c : Int) / 262144).toNat = 240 + c / 262144 by omega, show (128 + (c : Int) / 4096 % 64).toNat = 128 + c / 4096 % 64 by omega, show (128 + (c : Int) / 64 % 64).toNat = 128 + c / 64 % 64 by omega, show (128 + (c : Int) % 64).toNat = 128 + c % 64 by omega]
    have e : 262144 * (240 + c / 262144 - 240) + 4096 * (128 + c / 4096 % 64 - 128) + 64 * (128 + c / 64 % 64 - 128) + (128 + c % 64 - 128) = c := by omega
    unfold dec decR tl
    rw [byt0, byt1, byt2, byt3, u8n _ (by omega), u8n _ (by omega), u8n _ (by omega), u8n _ (by omega), if_neg (by simp), if_neg (by omega), if_neg (by omega), if_neg (by omega), if_pos ⟨by omega, by omega, ⟨by simp, by omega, by omega⟩, ⟨by simp, by omega, by omega⟩, ⟨by simp, by omega, by omega⟩, by omega, by omega⟩]
    exact Prod.ext e rfl
def encL : List Nat → List UInt8
  | [] => []
  | c :: cs => encodeRune (c : Int) ++ encL cs
theorem enc_pos (c : Nat) : 1 ≤ (encodeRune (c : Int)).length := by
  unfold encodeRune
  rw [List.length_map]
  exact (encodeRuneZ_length (c : Int)).1
theorem runes_enc : ∀ (cs : List Nat) (m : Nat), (∀ c ∈ cs, okC c) → (encL cs).length ≤ m → runesF m (encL cs) = cs ∧ validF m (encL cs) = true
  | [], m, h, hm => by cases m <;> exact ⟨rfl, rfl⟩
  | c :: cs, m, h, hm => by
    have hp := enc_pos c
    rw [encL, List.length_append] at hm
    obtain ⟨m, rfl⟩ : ∃ q, m = q + 1 := ⟨m - 1, by omega⟩
    have hd := dec_encode c (h c (List.mem_cons_self ..)) (encL cs)
    have hne : ¬ ((encL (c :: cs)).isEmpty = true) := by
      intro e
      rw [List.isEmpty_iff] at e
      have := congrArg List.length e
      rw [encL, List.length_append, List.length_nil] at this
      omega
    obtain ⟨i1, i2⟩ := runes_enc cs m (fun x hx => h x (List.mem_cons_of_mem _ hx)) (by omega)
    rw [runesF, validF, if_neg hne, if_neg hne, encL, hd]
    dsimp only
    rw [if_neg (by omega), if_neg (by omega), List.drop_left, i1, i2]
    exact ⟨rfl, rfl⟩
theorem enc_runes : ∀ (m : Nat) (l : List UInt8), l.length ≤ m → validF m l = true → encL (runesF m l) = l ∧ ∀ c ∈ runesF m l, okC c
  | 0, l, hl, hv => by
    have : l = [] := List.eq_nil_of_length_eq_zero (by omega)
    subst this
    exact ⟨rfl, fun c hc => by simp [runesF] at hc⟩
  | m + 1, l, hl, hv => by
    by_cases he : l.isEmpty = true
    · rw [runesF, if_pos he]
      rw [List.isEmpty_iff] at he
      subst he
      exact ⟨rfl, fun c hc => by simp at hc⟩
    · rw [validF, if_neg he] at hv
      by_cases hz : (dec l).2 = 0
      · rw [if_pos hz] at hv; cases hv
      · rw [if_neg hz] at hv
        obtain ⟨_, ho, hen, _⟩ := dec_enc l hz
        obtain ⟨i1, i2⟩ := enc_runes m (l.drop (dec l).2) (by rw [List.length_drop]; omega) hv
        rw [runesF, if_neg he, if_neg hz, encL, i1, hen, List.take_append_drop]
        refine ⟨rfl, fun c hc => ?_⟩
        rcases List.mem_cons.1 hc with rfl | hc
        · exact ho
        · exact i2 c hc
theorem valid_runes (a : ByteArray) (hv : validD a.data.toList = true) : encL (runesOf a.data.toList) = a.data.toList ∧ ∀ c ∈ runesOf a.data.toList, okC c := by
  rw [validD_validF] at hv
  exact enc_runes _ _ (Nat.le_refl _) hv
theorem valid_runesL (x : List UInt8) (h : validD x = true) : encL (runesOf x) = x ∧ ∀ c ∈ runesOf x, okC c := valid_runes ⟨x.toArray⟩ h
theorem count_runes (s : ByteArray) : ∀ (cs : List Nat) (f pos : Nat), (∀ c ∈ cs, okC c) → pos ≤ s.size → s.data.toList.drop pos = encL cs → s.size - pos ≤ f → Lib.runeCountFrom s f pos = cs.length
  | [], f, pos, ho, hp, hd, hf => by
    have hl := congrArg List.length hd
    rw [List.length_drop, ← size_len] at hl
    have e : (encL []).length = 0 := rfl
    exact Lib.runeCountFrom_end s f pos (by omega)
  | c :: cs, f, pos, ho, hp, hd, hf => by
    have hl := congrArg List.length hd
    have hp1 := enc_pos c
    rw [List.length_drop, ← size_len, encL, List.length_append] at hl
    have hlt : pos < s.size := by omega
    obtain ⟨f, rfl⟩ : ∃ q, f = q + 1 := ⟨f - 1, by omega⟩
    have hdec : dec (s.data.toList.drop pos) = (c, (encodeRune (c : Int)).length) := by rw [hd, encL]; exact dec_encode c (ho c (List.mem_cons_self ..)) _
    have e : Utf8.decode s pos = (c, (encodeRune (c : Int)).length) := by
      rw [decode_dec s pos hlt (by rw [hdec]; show (encodeRune (c : Int)).length ≠ 0; omega), hdec]
    rw [Lib.runeCountFrom, if_pos hlt, e, List.length_cons]
    rw [count_runes s cs f (pos + (encodeRune (c : Int)).length) (fun x hx => ho x (List.mem_cons_of_mem _ hx)) (by omega) (by rw [← List.drop_drop, hd, encL, List.drop_left]) (by omega)]
    omega
theorem count_ev (s : ByteArray) (hv : validD s.data.toList = true) : Lib.runeCount s = (runesOf s.data.toList).length := by
  obtain ⟨e1, o1⟩ := valid_runesL _ hv
  exact count_runes s _ s.size 0 o1 (Nat.zero_le _) e1.symm (by omega)
end Go.Proofs.YtnbbajiabbmdmaaGreatDoor.U8
namespace Go.Proofs.YtnbbajiabbmdmaaGreatDoor.U8
open Go.RowKit Go.Proofs.YtnbbajiabbmdmaaGreatDoor.A Go.Proofs.YtnbbajiabbmdmaaGreatDoorW.PrintWords Go.Proofs.YtnbbajiabbmdmaaGreatDoorW.PrintLast Go.Lib
set_option linter.unusedVariables false
set_option linter.unusedSimpArgs false
/-- A letter made small. -/
def smallI (c : Int) : Int := if (65 ≤ c ∧ c ≤ 90) ∨ (192 ≤ c ∧ c ≤ 222 ∧ ¬ c = 215) ∨ (913 ≤ c ∧ c ≤ 937 ∧ ¬ c = 930) ∨ (1040 ≤ c ∧ c ≤ 1071) then c + 32 else c
theorem small_q (c : Int) (h0 : 0 ≤ c) (hc : c ≤ 1114111) : name_Small.f c = some (smallI c) := by
  by_cases e1 : c = 215
  · subst e1; decide +kernel
  by_cases e3 : c = 930
  · subst e3; decide +kernel
  have n1 : (c = 215) = False := eq_false e1
  have n3 : (c = 930) = False := eq_false e3
  have hw : wrap32 (c + 32) = c + 32 := by unfold wrap32; omega
  have cs : c < 65 ∨ (65 ≤ c ∧ c ≤ 90) ∨ (91 ≤ c ∧ c < 192) ∨ (192 ≤ c ∧ c ≤ 222) ∨ (223 ≤ c ∧ c < 913) ∨ (913 ≤ c ∧ c ≤ 937) ∨ (938 ≤ c ∧ c < 1040) ∨ (1040 ≤ c ∧ c ≤ 1071) ∨ 1072 ≤ c := by omega
  rcases cs with h | h | h | h | h | h | h | h | h
  all_goals (
    (first | have l65 : (65 ≤ c) = True := eq_true (by omega) | have l65 : (65 ≤ c) = False := eq_false (by omega)); (first | have u90 : (c ≤ 90) = True := eq_true (by omega) | have u90 : (c ≤ 90) = False := eq_false (by omega))
    (first | have l192 : (192 ≤ c) = True := eq_true (by omega) | have l192 : (192 ≤ c) = False := eq_false (by omega)); (first | have u222 : (c ≤ 222) = True := eq_true (by omega) | have u222 : (c ≤ 222) = False := eq_false (by omega))
    (first | have l913 : (913 ≤ c) = True := eq_true (by omega) | have l913 : (913 ≤ c) = False := eq_false (by omega)); (first | have u937 : (c ≤ 937) = True := eq_true (by omega) | have u937 : (c ≤ 937) = False := eq_false (by omega))
    (first | have l1040 : (1040 ≤ c) = True := eq_true (by omega) | have l1040 : (1040 ≤ c) = False := eq_false (by omega)); (first | have u1071 : (c ≤ 1071) = True := eq_true (by omega) | have u1071 : (c ≤ 1071) = False := eq_false (by omega))
    simp only [name_Small.f, name_between.f, smallI, ge_iff_le, n1, n3, hw, l65, u90, l192, u222, l913, u937, l1040, u1071, Option.bind_some, decide_true, decide_false, Bool.false_eq_true, Bool.true_eq_false, if_true, if_false, reduceIte, and_true, true_and, and_false, false_and, or_true, true_or, or_false, false_or, and_self, or_self, not_true, not_false_eq_true, ne_eq])
theorem small_r (c : Int) (h0 : 0 ≤ c) (hc : c ≤ 1114111) : caduceusref02_Small.f c = some (smallI c) := by
  by_cases e1 : c = 215
  · subst e1; decide +kernel
  by_cases e3 : c = 930
  · subst e3; decide +kernel
  have n1 : (c = 215) = False := eq_false e1
  have n3 : (c = 930) = False := eq_false e3
  have hw : wrap64 (c + 32) = c + 32 := by unfold wrap64; omega
  have cs : c < 65 ∨ (65 ≤ c ∧ c ≤ 90) ∨ (91 ≤ c ∧ c < 192) ∨ (192 ≤ c ∧ c ≤ 222) ∨ (223 ≤ c ∧ c < 913) ∨ (913 ≤ c ∧ c ≤ 937) ∨ (938 ≤ c ∧ c < 1040) ∨ (1040 ≤ c ∧ c ≤ 1071) ∨ 1072 ≤ c := by omega
  rcases cs with h | h | h | h | h | h | h | h | h
  all_goals (
    (first | have l65 : (65 ≤ c) = True := eq_true (by omega) | have l65 : (65 ≤ c) = False := eq_false (by omega)); (first | have u90 : (c ≤ 90) = True := eq_true (by omega) | have u90 : (c ≤ 90) = False := eq_false (by omega))
    (first | have l192 : (192 ≤ c) = True := eq_true (by omega) | have l192 : (192 ≤ c) = False := eq_false (by omega)); (first | have u222 : (c ≤ 222) = True := eq_true (by omega) | have u222 : (c ≤ 222) = False := eq_false (by omega))
    (first | have l913 : (913 ≤ c) = True := eq_true (by omega) | have l913 : (913 ≤ c) = False := eq_false (by omega)); (first | have u937 : (c ≤ 937) = True := eq_true (by omega) | have u937 : (c ≤ 937) = False := eq_false (by omega))
    (first | have l1040 : (1040 ≤ c) = True := eq_true (by omega) | have l1040 : (1040 ≤ c) = False := eq_false (by omega)); (first | have u1071 : (c ≤ 1071) = True := eq_true (by omega) | have u1071 : (c ≤ 1071) = False := eq_false (by omega))
    simp only [caduceusref02_Small.f, smallI, ge_iff_le, n1, n3, hw, l65, u90, l192, u222, l913, u937, l1040, u1071, Option.bind_some, decide_true, decide_false, Bool.false_eq_true, Bool.true_eq_false, if_true, if_false, reduceIte, and_true, true_and, and_false, false_and, or_true, true_or, or_false, false_or, and_self, or_self, not_true, not_false_eq_true, ne_eq])
theorem small_ok (c : Nat) (h : okC c) : okC (smallI (c : Int)).toNat ∧ smallI (c : Int) = (((smallI (c : Int)).toNat : Nat) : Int) := by
  unfold okC at *
  unfold smallI
  split <;> omega
end Go.Proofs.YtnbbajiabbmdmaaGreatDoor.U8
namespace Go.Proofs.YtnbbajiabbmdmaaGreatDoor.U8
open Go.RowKit Go.Proofs.YtnbbajiabbmdmaaGreatDoor.A Go.Proofs.YtnbbajiabbmdmaaGreatDoorW.PrintWords Go.Proofs.YtnbbajiabbmdmaaGreatDoorW.PrintLast Go.Lib
set_option linter.unusedVariables false
theorem td (a b : Nat) : Int.tdiv (a : Int) (b : Int) = ((a / b : Nat) : Int) := by
  rw [Int.tdiv_eq_ediv_of_nonneg (by omega)]; rfl
theorem tm (a b : Nat) : Int.tmod (a : Int) (b : Int) = ((a % b : Nat) : Int) := by
  rw [Int.tmod_eq_emod_of_nonneg (by omega)]; rfl
theorem dw (c b : Nat) (hb : 0 < b) (h : c ≤ 1114111) : wrap64 (Int.tdiv (c : Int) (b : Int)) = ((c / b : Nat) : Int) := by
  rw [td]
  have : c / b ≤ c := Nat.div_le_self c b
  generalize c / b = q at this
  rw [w64 (by omega) (by omega)]
theorem bytes_q (c : Nat) (h : okC c) : caduceusref02_Bytes.f (c : Int) = some ⟨(encodeRune (c : Int)).toArray⟩ := by
  have hc : c ≤ 1114111 := by unfold okC at h; omega
  unfold caduceusref02_Bytes.f
  rw [show wrap64 (Int.tdiv (c : Int) 64) = ((c / 64 : Nat) : Int) from dw c 64 (by decide) hc, show wrap64 (Int.tdiv (c : Int) 4096) = ((c / 4096 : Nat) : Int) from dw c 4096 (by decide) hc, show wrap64 (Int.tdiv (c : Int) 262144) = ((c / 262144 : Nat) : Int) from dw c 262144 (by decide) hc,
    show Int.tmod (c : Int) 64 = ((c % 64 : Nat) : Int) from tm c 64, show Int.tmod ((c / 64 : Nat) : Int) 64 = ((c / 64 % 64 : Nat) : Int) from tm (c / 64) 64, show Int.tmod ((c / 4096 : Nat) : Int) 64 = ((c / 4096 % 64 : Nat) : Int) from tm (c / 4096) 64]
  by_cases h1 : c < 128
  · rw [if_pos (by omega)]
    unfold encodeRune
    rw [encodeRuneZ_one (by omega) (by omega), show ((c : Int)) % 256 = c by omega]; rfl
  rw [if_neg (by omega)]
  have b2 : (128 + ((c % 64 : Nat) : Int)) % 256 = 128 + (c : Int) % 64 := by omega
  by_cases h2 : c < 2048
  · rw [if_pos (by omega)]
    unfold encodeRune
    rw [encodeRuneZ_two (by omega) (by omega), w64 (by omega) (by omega), w64 (by omega) (by omega), b2, show (192 + ((c / 64 : Nat) : Int)) % 256 = 192 + (c : Int) / 64 by omega]; rfl
  rw [if_neg (by omega)]
  have b3 : (128 + ((c / 64 % 64 : Nat) : Int)) % 256 = 128 + (c : Int) / 64 % 64 := by omega
  by_cases h3 : c < 65536
  · rw [if_pos (by omega)]
    unfold encodeRune
    rw [encodeRuneZ_three (by unfold okC at h; omega), w64 (by omega) (by omega), w64 (by omega) (by omega), w64 (by omega) (by omega), b2, b3, show (224 + ((c / 4096 : Nat) : Int)) % 256 = 224 + (c : Int) / 4096 by omega]; rfl
  · rw [if_neg (by omega)]
    unfold encodeRune
    rw [encodeRuneZ_four (by omega) (by omega), w64 (by omega) (by omega), w64 (by omega) (by omega), w64 (by omega) (by omega), w64 (by omega) (by omega), b2, b3, show (128 + ((c / 4096 % 64 : Nat) : Int)) % 256 = 128 + (c : Int) / 4096 % 64 by omega, show (240 + ((c / 262144 : Nat) : Int)) % 256 = 240 + (c : Int) / 262144 by omega]; rfl
end Go.Proofs.YtnbbajiabbmdmaaGreatDoor.U8
namespace Go.Proofs.YtnbbajiabbmdmaaGreatDoor.U8
open Go.RowKit Go.Proofs.YtnbbajiabbmdmaaGreatDoor.A Go.Proofs.YtnbbajiabbmdmaaGreatDoorW.PrintWords Go.Proofs.YtnbbajiabbmdmaaGreatDoorW.PrintLast Go.Lib
set_option linter.unusedVariables false
set_option linter.unusedSimpArgs false
def smallN (c : Nat) : Nat := (smallI (c : Int)).toNat
theorem fold_go (s : ByteArray) : ∀ (cs : List Nat) (f pos : Nat) (acc : List Int), (∀ c ∈ cs, okC c) → pos ≤ s.size → s.data.toList.drop pos = encL cs → s.size - pos < f → name_Fold.go s f pos acc = some (acc ++ ints (cs.map smallN))
  | cs, 0, pos, acc, ho, hp, hd, hf => by omega
  | [], f + 1, pos, acc, ho, hp, hd, hf => by
    have hl := congrArg List.length hd
    rw [List.length_drop, ← size_len] at hl
    have e : (encL []).length = 0 := rfl
    rw [name_Fold.go, if_neg (by omega)]
    show some acc = some (acc ++ [])
    rw [List.append_nil]
  | c :: cs, f + 1, pos, acc, ho, hp, hd, hf => by
    have hl := congrArg List.length hd
    have hp1 := enc_pos c
    rw [List.length_drop, ← size_len, encL, List.length_append] at hl
    have hlt : pos < s.size := by omega
    have hdec : dec (s.data.toList.drop pos) = (c, (encodeRune (c : Int)).length) := by rw [hd, encL]; exact dec_encode c (ho c (List.mem_cons_self ..)) _
    have e : Utf8.decode s pos = (c, (encodeRune (c : Int)).length) := by
      rw [decode_dec s pos hlt (by rw [hdec]; show (encodeRune (c : Int)).length ≠ 0; omega), hdec]
    have hc := ho c (List.mem_cons_self ..)
    have ih := fun b => fold_go s cs f (pos + (encodeRune (c : Int)).length) b (fun x hx => ho x (List.mem_cons_of_mem _ hx)) (by omega) (by rw [← List.drop_drop, hd, encL, List.drop_left]) (by omega)
    rw [name_Fold.go, if_pos hlt, e]
    dsimp only
    rw [small_q (c : Int) (by omega) (by unfold okC at hc; omega), Option.bind_some, ih, (small_ok c hc).2, List.append_assoc]
    rfl
theorem bytes_e4 (c : Nat) (h : okC c) : ∃ E : ByteArray, caduceusref02_Bytes.f (c : Int) = some E ∧ E.size ≤ 4 ∧ E = ⟨(encodeRune (c : Int)).toArray⟩ := by
  refine ⟨_, bytes_q c h, ?_, rfl⟩
  rw [size_len]
  have h4 : (encodeRune (c : Int)).length ≤ 4 := by unfold encodeRune; rw [List.length_map]; exact (encodeRuneZ_length (c : Int)).2
  generalize encodeRune (c : Int) = l at h4
  exact h4
theorem rdi2 (p : List Nat) (i : Nat) (h : i < p.length) : rd (ints p) (i : Int) = ((p[i] : Nat) : Int) := by
  unfold rd ints
  rw [Int.toNat_natCast, List.getD_eq_getElem?_getD, List.getElem?_map, List.getElem?_eq_getElem h]; rfl
theorem w1n2 (i : Nat) (h : i < 200000) : wrap64 ((i : Int) + 1) = ((i + 1 : Nat) : Int) := by rw [w64 (by omega) (by omega)]; omega
theorem foldr_l0 (cs : List Nat) (hl : cs.length < 100000) (ho : ∀ c ∈ cs, okC c) (k : Nat) : ∀ (m i : Nat) (t : ByteArray), i + m = cs.length → t.size ≤ 4 * i →
    caduceusref02_Fold.l0 (k + m + 1) (ints cs) t (i : Int) = some (t ++ ⟨(encL ((cs.drop i).map smallN)).toArray⟩)
  | 0, i, t, hi, ht => by
    have h1 : ¬ ((i : Int) < ((ints cs).length : Int)) := by unfold ints; rw [List.length_map]; omega
    rw [caduceusref02_Fold.l0, if_neg h1, List.drop_of_length_le (by omega)]
    refine congrArg some (ByteArray.ext (Array.ext' ?_))
    rw [ByteArray.data_append, Array.toList_append]
    exact (List.append_nil _).symm
  | m + 1, i, t, hi, ht => by
    have hlt : i < cs.length := by omega
    have h1 : (i : Int) < ((ints cs).length : Int) := by unfold ints; rw [List.length_map]; omega
    have hc := ho cs[i] (List.getElem_mem _)
    obtain ⟨s1, s2⟩ := small_ok cs[i] hc
    obtain ⟨E, hE, hE4, hEE⟩ := bytes_e4 (smallN cs[i]) s1
    have hcat : t.size + E.size ≤ 9223372036854775807 := by clear hE hEE s2; omega
    have hsz : (t ++ E).size ≤ 4 * (i + 1) := by clear hE hEE s2; rw [ByteArray.size_append]; omega
    have h0 : (0 : Int) ≤ ((cs[i] : Nat) : Int) := Int.natCast_nonneg _
    have hmx : ((cs[i] : Nat) : Int) ≤ 1114111 := by clear hE hEE s1 s2 hE4; unfold okC at hc; omega
    have ih := foldr_l0 cs hl ho k m (i + 1) (t ++ E) (by clear hE hEE s2; omega) hsz
    rw [show k + (m + 1) + 1 = (k + m + 1) + 1 from rfl, caduceusref02_Fold.l0, if_pos h1, if_pos (Int.natCast_nonneg i), rdi2 cs i hlt, small_r _ h0 hmx, Option.bind_some, s2]
    show (caduceusref02_Bytes.f ((smallN cs[i] : Nat) : Int)).bind _ = _
    rw [hE, Option.bind_some, if_pos hcat, w1n2 i (by clear hE hEE s2; omega), ih, List.drop_eq_getElem_cons hlt]
    refine congrArg some (ByteArray.ext (Array.ext' ?_))
    rw [ByteArray.data_append, Array.toList_append, ByteArray.data_append, Array.toList_append, ByteArray.data_append, Array.toList_append, hEE, List.append_assoc]
    rfl
end Go.Proofs.YtnbbajiabbmdmaaGreatDoor.U8
namespace Go.Proofs.YtnbbajiabbmdmaaGreatDoor.U8
open Go.RowKit Go.Proofs.YtnbbajiabbmdmaaGreatDoor.A Go.Proofs.YtnbbajiabbmdmaaGreatDoorW.PrintWords Go.Proofs.YtnbbajiabbmdmaaGreatDoorW.PrintLast Go.Lib
set_option linter.unusedVariables false
set_option linter.unusedSimpArgs false
/-- Go's writing of a rune and the model's are the same bytes. -/
theorem enc_rune2 (r : Nat) (hv : r < 55296 ∨ (57343 < r ∧ r ≤ 1114111)) : (Utf8.encode (r : Int)).data.toList = encodeRune (r : Int) := by
  have hvalid : Utf8.valid (r : Int) = true := by
    unfold Utf8.valid
    simp only [Bool.or_eq_true, Bool.and_eq_true, decide_eq_true_eq]
    omega
  unfold Utf8.encode encodeRune
  simp only [hvalid, if_true, Int.toNat_natCast]
  by_cases c1 : r < 128
  · rw [if_pos c1, encodeRuneZ_one (by omega) (by omega)]; simp
  by_cases c2 : r < 2048
  · rw [if_neg c1, if_pos c2, encodeRuneZ_two (by omega) (by omega)]
    simp only [List.map_cons, List.map_nil]
    rw [show (192 + (r : Int) / 64).toNat = 192 + r / 64 by omega, show (128 + (r : Int) % 64).toNat = 128 + r % 64 by omega]
  by_cases c3 : r < 65536
  · rw [if_neg c1, if_neg c2, if_pos c3, encodeRuneZ_three (by omega)]
    simp only [List.map_cons, List.map_nil]
    rw [show (224 + (r : Int) / 4096).toNat = 224 + r / 4096 by omega, show (128 + (r : Int) / 64 % 64).toNat = 128 + r / 64 % 64 by omega, show (128 + (r : Int) % 64).toNat = 128 + r % 64 by omega]
  · rw [if_neg c1, if_neg c2, if_neg c3, encodeRuneZ_four (by omega) (by omega)]
    simp only [List.map_cons, List.map_nil]
    rw [show (240 + (r : Int) / 262144).toNat = 240 + r / 262144 by omega, show (128 + (r : Int) / 4096 % 64).toNat = 128 + r / 4096 % 64 by omega, show (128 + (r : Int) / 64 % 64).toNat = 128 + r / 64 % 64 by omega, show (128 + (r : Int) % 64).toNat = 128 + r % 64 by omega]
theorem foldl_enc : ∀ (cs : List Nat) (r : ByteArray), (∀ c ∈ cs, okC c) → ((ints cs).foldl (fun r n => r ++ Utf8.encode n) r).data.toList = r.data.toList ++ encL cs
  | [], r, _ => (List.append_nil _).symm
  | c :: cs, r, ho => by
    have ih := foldl_enc cs (r ++ Utf8.encode (c : Int)) (fun x hx => ho x (List.mem_cons_of_mem _ hx))
    refine ih.trans ?_
    rw [ByteArray.data_append, Array.toList_append, enc_rune2 c (ho c List.mem_cons_self), encL, List.append_assoc]
theorem runesBytes_enc (cs : List Nat) (ho : ∀ c ∈ cs, okC c) : runesBytes (ints cs) = ⟨(encL cs).toArray⟩ := by
  refine ByteArray.ext (Array.ext' ?_)
  exact foldl_enc cs ByteArray.empty ho
/-- A name made small, as both make it. -/
def foldB (s : ByteArray) : ByteArray := if validD s.data.toList = true then ⟨(encL ((runesOf s.data.toList).map smallN)).toArray⟩ else s
theorem fold_q (s : ByteArray) (hs : s.size < 1000000) : name_Fold.f s = some (foldB s) := by
  unfold name_Fold.f foldB
  rw [if_pos (show s.size ≤ 1099511627776 by omega)]
  by_cases hv : validD s.data.toList = true
  · obtain ⟨e1, o1⟩ := valid_runesL _ hv
    have hm : ∀ c ∈ (runesOf s.data.toList).map smallN, okC c := by
      intro c hc
      obtain ⟨x, hx, rfl⟩ := List.mem_map.1 hc
      exact (small_ok x (o1 x hx)).1
    rw [if_pos hv, if_pos hv, fold_go s _ (s.size + 1) 0 [] o1 (Nat.zero_le _) e1.symm (by omega), Option.bind_some, List.nil_append, runesBytes_enc _ hm]
  · rw [if_neg hv, if_neg hv]
theorem encL_len2 : ∀ cs : List Nat, cs.length ≤ (encL cs).length
  | [] => Nat.le_refl _
  | c :: cs => by
    have := encL_len2 cs; have := enc_pos c
    rw [encL, List.length_append, List.length_cons]; omega
theorem fold_r (s : ByteArray) (hs : s.size < 90000) (k : Nat) (hk : 2 * s.size + 20 ≤ k) : caduceusref02_Fold.f k s = some (foldB s) := by
  unfold caduceusref02_Fold.f foldB
  rw [valid_ev s (by omega) _ (by omega), Option.bind_some]
  by_cases hv : validD s.data.toList = true
  · obtain ⟨e1, o1⟩ := valid_runesL _ hv
    have hlen : (runesOf s.data.toList).length ≤ s.size := by
      have := encL_len2 (runesOf s.data.toList)
      rw [e1, ← size_len] at this; exact this
    have h := foldr_l0 (runesOf s.data.toList) (by omega) o1 (k - (runesOf s.data.toList).length - 1) (runesOf s.data.toList).length 0 ⟨#[]⟩ (by omega) (Nat.le_refl _)
    rw [show k - (runesOf s.data.toList).length - 1 + (runesOf s.data.toList).length + 1 = k by omega, List.drop_zero] at h
    rw [if_pos hv, if_pos hv, runes_ev s (by omega) _ (by omega), Option.bind_some]
    refine h.trans (congrArg some (ByteArray.ext (Array.ext' ?_)))
    rw [ByteArray.data_append, Array.toList_append]; rfl
  · rw [if_neg hv, if_neg hv]
end Go.Proofs.YtnbbajiabbmdmaaGreatDoor.U8
namespace Go.Proofs.YtnbbajiabbmdmaaGreatDoor.U8
open Go.RowKit Go.Proofs.YtnbbajiabbmdmaaGreatDoor.A Go.Proofs.YtnbbajiabbmdmaaGreatDoorW.PrintWords Go.Proofs.YtnbbajiabbmdmaaGreatDoorW.PrintLast Go.Lib
set_option linter.unusedVariables false
set_option linter.unusedSimpArgs false
theorem cmp_rune (a b : Int) : cmp_Compare_rune.f a b = some (if a < b then -1 else if b < a then 1 else 0) := by
  unfold cmp_Compare_rune.f cmp_isNaN_rune.f
  simp only [bne_self_eq_false, Option.bind_some, Bool.false_eq_true, if_false, ne_eq, not_true_eq_false, decide_false, gt_iff_lt]
  split
  · rfl
  · split <;> rfl
theorem rdd (x : List Int) (i : Nat) (h : i < x.length) : rd x (i : Int) = x[i] := by
  unfold rd
  rw [Int.toNat_natCast, List.getD_eq_getElem?_getD, List.getElem?_eq_getElem h]; rfl
theorem slcmp_l0 (x y : List Int) (hl : x.length < 100000) (k : Nat) : ∀ (m i : Nat), i + m = x.length → slices_Compare_rune_rune.l0 (k + m + 1) x y x (x.length : Int) (i : Int) = some (cmpI (x.drop i) (y.drop i))
  | 0, i, hi => by
    have h1 : ¬ ((i : Int) < (x.length : Int)) := by omega
    rw [slices_Compare_rune_rune.l0, if_neg h1, List.drop_of_length_le (show x.length ≤ i by omega)]
    by_cases h : x.length < y.length
    · rw [if_pos (show (x.length : Int) < (y.length : Int) by omega), List.drop_eq_getElem_cons (show i < y.length by omega)]; rfl
    · rw [if_neg (show ¬ (x.length : Int) < (y.length : Int) by omega), List.drop_of_length_le (show y.length ≤ i by omega)]; rfl
  | m + 1, i, hi => by
    have hx : i < x.length := by omega
    have h1 : (i : Int) < (x.length : Int) := by omega
    have w1 : wrap64 ((i : Int) + 1) = ((i + 1 : Nat) : Int) := w1n2 i (by omega)
    have ih := slcmp_l0 x y hl k m (i + 1) (by omega)
    rw [show k + (m + 1) + 1 = (k + m + 1) + 1 from rfl, slices_Compare_rune_rune.l0, if_pos h1, if_pos (Int.natCast_nonneg i), if_pos h1, List.drop_eq_getElem_cons hx]
    by_cases hy : i < y.length
    · have h2 : (i : Int) < (y.length : Int) := by omega
      have h3 : ¬ ((i : Int) ≥ (y.length : Int)) := by omega
      rw [if_neg h3, if_pos h2, rdd x i hx, rdd y i hy, cmp_rune, Option.bind_some, w1, ih, List.drop_eq_getElem_cons hy, cmpI]
      by_cases c1 : x[i] < y[i]
      · rw [if_pos c1, if_pos c1, if_neg (by decide)]
      rw [if_neg c1, if_neg c1]
      by_cases c2 : y[i] < x[i]
      · rw [if_pos c2, if_pos c2, if_neg (by decide)]
      · rw [if_neg c2, if_neg c2, if_pos rfl]
    · have h3 : (i : Int) ≥ (y.length : Int) := by omega
      rw [if_pos h3, List.drop_of_length_le (show y.length ≤ i by omega)]; rfl
theorem slcmp_q (x y : List Int) (hl : x.length < 100000) (k : Nat) (hk : x.length + 1 ≤ k) : slices_Compare_rune_rune.f k x y = some (cmpI x y) := by
  have h := slcmp_l0 x y hl (k - x.length - 1) x.length 0 (by omega)
  rw [show k - x.length - 1 + x.length + 1 = k by omega] at h
  unfold slices_Compare_rune_rune.f
  exact h
end Go.Proofs.YtnbbajiabbmdmaaGreatDoor.U8
namespace Go.Proofs.YtnbbajiabbmdmaaGreatDoor.U8
open Go.RowKit Go.Proofs.YtnbbajiabbmdmaaGreatDoor.A Go.Proofs.YtnbbajiabbmdmaaGreatDoorW.PrintWords Go.Proofs.YtnbbajiabbmdmaaGreatDoorW.PrintLast Go.Lib
set_option linter.unusedVariables false
set_option linter.unusedSimpArgs false
theorem runesI_go (s : ByteArray) : ∀ (cs : List Nat) (b pos : Nat), (∀ c ∈ cs, okC c) → pos ≤ s.size → s.data.toList.drop pos = encL cs → s.size - pos ≤ b → runesI s b pos = ints cs
  | [], 0, pos, ho, hp, hd, hf => rfl
  | c :: cs, 0, pos, ho, hp, hd, hf => by
    have hl := congrArg List.length hd
    have hp1 := enc_pos c
    rw [List.length_drop, ← size_len, encL, List.length_append] at hl
    omega
  | [], b + 1, pos, ho, hp, hd, hf => by
    have hl := congrArg List.length hd
    rw [List.length_drop, ← size_len] at hl
    have e : (encL []).length = 0 := rfl
    rw [runesI, if_neg (by omega)]; rfl
  | c :: cs, b + 1, pos, ho, hp, hd, hf => by
    have hl := congrArg List.length hd
    have hp1 := enc_pos c
    rw [List.length_drop, ← size_len, encL, List.length_append] at hl
    have hlt : pos < s.size := by omega
    have hdec : dec (s.data.toList.drop pos) = (c, (encodeRune (c : Int)).length) := by rw [hd, encL]; exact dec_encode c (ho c (List.mem_cons_self ..)) _
    have e : Utf8.decode s pos = (c, (encodeRune (c : Int)).length) := by
      rw [decode_dec s pos hlt (by rw [hdec]; show (encodeRune (c : Int)).length ≠ 0; omega), hdec]
    have ih := runesI_go s cs b (pos + (encodeRune (c : Int)).length) (fun x hx => ho x (List.mem_cons_of_mem _ hx)) (by omega) (by rw [← List.drop_drop, hd, encL, List.drop_left]) (by omega)
    rw [runesI, if_pos hlt, e]
    dsimp only
    rw [ih]; rfl
theorem fold_ok (s : ByteArray) (hv : validD s.data.toList = true) : ∀ c ∈ (runesOf s.data.toList).map smallN, okC c := by
  obtain ⟨e1, o1⟩ := valid_runesL _ hv
  intro c hc
  obtain ⟨x, hx, rfl⟩ := List.mem_map.1 hc
  exact (small_ok x (o1 x hx)).1
theorem fold_list (s : ByteArray) (hv : validD s.data.toList = true) : (foldB s).data.toList = encL ((runesOf s.data.toList).map smallN) := by
  unfold foldB
  rw [if_pos hv]
theorem fold_valid (s : ByteArray) (hv : validD s.data.toList = true) : validD (foldB s).data.toList = true ∧ runesOf (foldB s).data.toList = (runesOf s.data.toList).map smallN := by
  have h := runes_enc _ _ (fold_ok s hv) (Nat.le_refl _)
  rw [fold_list s hv, validD_validF]
  exact ⟨h.2, h.1⟩
theorem encL_four : ∀ cs : List Nat, (encL cs).length ≤ 4 * cs.length
  | [] => Nat.le_refl _
  | c :: cs => by
    have h1 := encL_four cs
    have h4 : (encodeRune (c : Int)).length ≤ 4 := by unfold encodeRune; rw [List.length_map]; exact (encodeRuneZ_length (c : Int)).2
    rw [encL, List.length_append, List.length_cons]; omega
theorem fold_size (s : ByteArray) (hv : validD s.data.toList = true) : (foldB s).size ≤ 4 * s.size ∧ (runesOf s.data.toList).length ≤ s.size := by
  obtain ⟨e1, o1⟩ := valid_runesL _ hv
  have hlen : (runesOf s.data.toList).length ≤ s.size := by
    have := encL_len2 (runesOf s.data.toList)
    rw [e1, ← size_len] at this; exact this
  have h := encL_four ((runesOf s.data.toList).map smallN)
  rw [← fold_list s hv, ← size_len, List.length_map] at h
  exact ⟨by omega, hlen⟩
/-- How two names stand, as both say it. -/
def cmpB (a b : ByteArray) : Int := cmpI (ints ((runesOf a.data.toList).map smallN)) (ints ((runesOf b.data.toList).map smallN))
theorem runesI_fold (s : ByteArray) (hv : validD s.data.toList = true) : runesI (foldB s) (foldB s).size 0 = ints ((runesOf s.data.toList).map smallN) :=
  runesI_go (foldB s) _ _ 0 (fold_ok s hv) (Nat.zero_le _) (fold_list s hv) (by omega)
theorem compare_q (a b : ByteArray) (ha : a.size < 20000) (hb : b.size < 20000) (va : validD a.data.toList = true) (vb : validD b.data.toList = true) (k : Nat) (hk : a.size + 1 ≤ k) : name_Compare.f k a b = some (cmpB a b) := by
  obtain ⟨a1, a2⟩ := fold_size a va
  obtain ⟨b1, b2⟩ := fold_size b vb
  unfold name_Compare.f cmpB
  rw [fold_q a (by omega), Option.bind_some, fold_q b (by omega), Option.bind_some, if_pos (show (foldB a).size ≤ 1099511627776 by omega), if_pos (show (foldB b).size ≤ 1099511627776 by omega), if_pos (fold_valid a va).1, if_pos (fold_valid b vb).1, runesI_fold a va, runesI_fold b vb]
  have hl : (ints ((runesOf a.data.toList).map smallN)).length = (runesOf a.data.toList).length := by unfold ints; rw [List.length_map, List.length_map]
  exact slcmp_q _ _ (by omega) k (by omega)
theorem compare_r (a b : ByteArray) (ha : a.size < 20000) (hb : b.size < 20000) (va : validD a.data.toList = true) (vb : validD b.data.toList = true) (k : Nat) (hka : 4 * a.size + 20 ≤ k) (hkb : 4 * b.size + 20 ≤ k) : caduceusref02_Compare.f k a b = some (cmpB a b) := by
  obtain ⟨a1, a2⟩ := fold_size a va
  obtain ⟨b1, b2⟩ := fold_size b vb
  unfold caduceusref02_Compare.f cmpB
  rw [fold_r a (by omega) k (by omega), Option.bind_some, fold_r b (by omega) k (by omega), Option.bind_some, valid_ev _ (by omega) k (by omega), Option.bind_some, valid_ev _ (by omega) k (by omega), Option.bind_some, if_pos (fold_valid a va).1, if_pos (fold_valid b vb).1, runes_ev _ (by omega) k (by omega), Option.bind_some, runes_ev _ (by omega) k (by omega), Option.bind_some, (fold_valid a va).2, (fold_valid b vb).2]
end Go.Proofs.YtnbbajiabbmdmaaGreatDoor.U8
namespace Go.Proofs.YtnbbajiabbmdmaaGreatDoor.U8
open Go.RowKit Go.Proofs.YtnbbajiabbmdmaaGreatDoor.A Go.Proofs.YtnbbajiabbmdmaaGreatDoorW.PrintWords Go.Proofs.YtnbbajiabbmdmaaGreatDoorW.PrintLast Go.Lib
set_option linter.unusedVariables false
set_option linter.unusedSimpArgs false
/-- A letter, as the document says. -/
def letB (c : Int) : Bool := (65 ≤ c && c ≤ 90) || (97 ≤ c && c ≤ 122) || (192 ≤ c && c ≤ 591 && c != 215 && c != 247) || (913 ≤ c && c ≤ 937 && c != 930) || (945 ≤ c && c ≤ 969) || (1040 ≤ c && c ≤ 1103) || (19968 ≤ c && c ≤ 40959)
theorem letter_q (c : Int) (k : Nat) : name_Letter.f (k + 1) c = some (letB c) := by
  by_cases e1 : c = 215
  · subst e1; rfl
  by_cases e2 : c = 247
  · subst e2; rfl
  by_cases e3 : c = 930
  · subst e3; rfl
  have n1 : (c = 215) = False := eq_false e1
  have m1 : (c != 215) = true := bne_iff_ne.2 e1
  have m2 : (c != 247) = true := bne_iff_ne.2 e2
  have m3 : (c != 930) = true := bne_iff_ne.2 e3
  have cs : c < 65 ∨ (65 ≤ c ∧ c < 91) ∨ (91 ≤ c ∧ c < 97) ∨ (97 ≤ c ∧ c < 123) ∨ (123 ≤ c ∧ c < 192) ∨ (192 ≤ c ∧ c < 592) ∨ (592 ≤ c ∧ c < 913) ∨ (913 ≤ c ∧ c < 938) ∨ (938 ≤ c ∧ c < 945) ∨ (945 ≤ c ∧ c < 970) ∨ (970 ≤ c ∧ c < 1040) ∨ (1040 ≤ c ∧ c < 1104) ∨ (1104 ≤ c ∧ c < 19968) ∨ (19968 ≤ c ∧ c < 40960) ∨ 40960 ≤ c := by omega
  rcases cs with h | h | h | h | h | h | h | h | h | h | h | h | h | h | h
  all_goals (
    (first | have l65 : (65 ≤ c) = True := eq_true (by omega) | have l65 : (65 ≤ c) = False := eq_false (by omega)); (first | have u90 : (c ≤ 90) = True := eq_true (by omega) | have u90 : (c ≤ 90) = False := eq_false (by omega));
    (first | have l97 : (97 ≤ c) = True := eq_true (by omega) | have l97 : (97 ≤ c) = False := eq_false (by omega)); (first | have u122 : (c ≤ 122) = True := eq_true (by omega) | have u122 : (c ≤ 122) = False := eq_false (by omega));
    (first | have l192 : (192 ≤ c) = True := eq_true (by omega) | have l192 : (192 ≤ c) = False := eq_false (by omega)); (first | have u591 : (c ≤ 591) = True := eq_true (by omega) | have u591 : (c ≤ 591) = False := eq_false (by omega));
    (first | have l913 : (913 ≤ c) = True := eq_true (by omega) | have l913 : (913 ≤ c) = False := eq_false (by omega)); (first | have u937 : (c ≤ 937) = True := eq_true (by omega) | have u937 : (c ≤ 937) = False := eq_false (by omega));
    (first | have l945 : (945 ≤ c) = True := eq_true (by omega) | have l945 : (945 ≤ c) = False := eq_false (by omega)); (first | have u969 : (c ≤ 969) = True := eq_true (by omega) | have u969 : (c ≤ 969) = False := eq_false (by omega));
    (first | have l1040 : (1040 ≤ c) = True := eq_true (by omega) | have l1040 : (1040 ≤ c) = False := eq_false (by omega)); (first | have u1103 : (c ≤ 1103) = True := eq_true (by omega) | have u1103 : (c ≤ 1103) = False := eq_false (by omega));
    (first | have l19968 : (19968 ≤ c) = True := eq_true (by omega) | have l19968 : (19968 ≤ c) = False := eq_false (by omega)); (first | have u40959 : (c ≤ 40959) = True := eq_true (by omega) | have u40959 : (c ≤ 40959) = False := eq_false (by omega))
    )
  all_goals simp only [name_Letter.f, name_Letter.j0, name_between.f, letB, ge_iff_le, n1, m1, m2, m3, l65, u90, l97, u122, l192, u591, l913, u937, l945, u969, l1040, u1103, l19968, u40959, Option.bind_some, if_true, if_false, decide_true, decide_false, Bool.and_true, Bool.and_false, Bool.true_and, Bool.false_and, Bool.or_true, Bool.or_false, Bool.true_or, Bool.false_or, Bool.false_eq_true]
theorem letter_r (c : Int) (k : Nat) : caduceusref02_Letter.f (k + 2) c = some (letB c) := by
  by_cases e1 : c = 215
  · subst e1; rfl
  by_cases e2 : c = 247
  · subst e2; rfl
  by_cases e3 : c = 930
  · subst e3; rfl
  have n1 : (c = 215) = False := eq_false e1
  have m1 : (c != 215) = true := bne_iff_ne.2 e1
  have m2 : (c != 247) = true := bne_iff_ne.2 e2
  have m3 : (c != 930) = true := bne_iff_ne.2 e3
  have cs : c < 65 ∨ (65 ≤ c ∧ c < 91) ∨ (91 ≤ c ∧ c < 97) ∨ (97 ≤ c ∧ c < 123) ∨ (123 ≤ c ∧ c < 192) ∨ (192 ≤ c ∧ c < 592) ∨ (592 ≤ c ∧ c < 913) ∨ (913 ≤ c ∧ c < 938) ∨ (938 ≤ c ∧ c < 945) ∨ (945 ≤ c ∧ c < 970) ∨ (970 ≤ c ∧ c < 1040) ∨ (1040 ≤ c ∧ c < 1104) ∨ (1104 ≤ c ∧ c < 19968) ∨ (19968 ≤ c ∧ c < 40960) ∨ 40960 ≤ c := by omega
  rcases cs with h | h | h | h | h | h | h | h | h | h | h | h | h | h | h
  all_goals (
    (first | have l65 : (65 ≤ c) = True := eq_true (by omega) | have l65 : (65 ≤ c) = False := eq_false (by omega)); (first | have u90 : (c ≤ 90) = True := eq_true (by omega) | have u90 : (c ≤ 90) = False := eq_false (by omega));
    (first | have l97 : (97 ≤ c) = True := eq_true (by omega) | have l97 : (97 ≤ c) = False := eq_false (by omega)); (first | have u122 : (c ≤ 122) = True := eq_true (by omega) | have u122 : (c ≤ 122) = False := eq_false (by omega));
    (first | have l192 : (192 ≤ c) = True := eq_true (by omega) | have l192 : (192 ≤ c) = False := eq_false (by omega)); (first | have u591 : (c ≤ 591) = True := eq_true (by omega) | have u591 : (c ≤ 591) = False := eq_false (by omega));
    (first | have l913 : (913 ≤ c) = True := eq_true (by omega) | have l913 : (913 ≤ c) = False := eq_false (by omega)); (first | have u937 : (c ≤ 937) = True := eq_true (by omega) | have u937 : (c ≤ 937) = False := eq_false (by omega));
    (first | have l945 : (945 ≤ c) = True := eq_true (by omega) | have l945 : (945 ≤ c) = False := eq_false (by omega)); (first | have u969 : (c ≤ 969) = True := eq_true (by omega) | have u969 : (c ≤ 969) = False := eq_false (by omega));
    (first | have l1040 : (1040 ≤ c) = True := eq_true (by omega) | have l1040 : (1040 ≤ c) = False := eq_false (by omega)); (first | have u1103 : (c ≤ 1103) = True := eq_true (by omega) | have u1103 : (c ≤ 1103) = False := eq_false (by omega));
    (first | have l19968 : (19968 ≤ c) = True := eq_true (by omega) | have l19968 : (19968 ≤ c) = False := eq_false (by omega)); (first | have u40959 : (c ≤ 40959) = True := eq_true (by omega) | have u40959 : (c ≤ 40959) = False := eq_false (by omega))
    )
  all_goals simp only [caduceusref02_Letter.f, caduceusref02_Letter.j0, caduceusref02_Letter.j1, letB, ge_iff_le, n1, m1, m2, m3, l65, u90, l97, u122, l192, u591, l913, u937, l945, u969, l1040, u1103, l19968, u40959, Option.bind_some, if_true, if_false, decide_true, decide_false, Bool.and_true, Bool.and_false, Bool.true_and, Bool.false_and, Bool.or_true, Bool.or_false, Bool.true_or, Bool.false_or, Bool.false_eq_true]
end Go.Proofs.YtnbbajiabbmdmaaGreatDoor.U8
namespace Go.Proofs.YtnbbajiabbmdmaaGreatDoor.U8
open Go.RowKit Go.Proofs.YtnbbajiabbmdmaaGreatDoor.A Go.Proofs.YtnbbajiabbmdmaaGreatDoorW.PrintWords Go.Proofs.YtnbbajiabbmdmaaGreatDoorW.PrintLast Go.Lib
set_option linter.unusedVariables false
set_option linter.unusedSimpArgs false
/-- Runes that form a name: parts, a point between two. -/
def formG : Bool → List Nat → Bool
  | first, [] => !first
  | first, c :: cs => if c = 46 then (if first = true then false else formG true cs)
    else if letB (c : Int) = true ∨ c = 95 then formG false cs
    else if first = false ∧ ((48 ≤ c ∧ c ≤ 57) ∨ c = 45) then formG false cs else false
/-- A part: its runes. -/
def partG : Bool → List Nat → Bool
  | first, [] => !first
  | first, c :: cs => if letB (c : Int) = true ∨ c = 95 then partG false cs
    else if first = false ∧ ((48 ≤ c ∧ c ≤ 57) ∨ c = 45) then partG false cs else false
/-- Runes cut at points: the part under way, the others. -/
def cutP : List Nat → List Nat × List (List Nat)
  | [] => ([], [])
  | c :: cs => if c = 46 then ([], (cutP cs).1 :: (cutP cs).2) else (c :: (cutP cs).1, (cutP cs).2)
theorem form_cut : ∀ (first : Bool) (cs : List Nat), formG first cs = (partG first (cutP cs).1 && (cutP cs).2.all (partG true))
  | first, [] => by simp [formG, partG, cutP]
  | first, c :: cs => by
    rw [formG, cutP]
    by_cases h : c = 46
    · rw [if_pos h, if_pos h, partG]
      cases first with
      | true => simp
      | false =>
        rw [if_neg (by decide), form_cut true cs]
        simp
    · rw [if_neg h, if_neg h, partG]
      by_cases h1 : letB (c : Int) = true ∨ c = 95
      · rw [if_pos h1, if_pos h1, form_cut false cs]
      · rw [if_neg h1, if_neg h1]
        by_cases h2 : first = false ∧ ((48 ≤ c ∧ c ≤ 57) ∨ c = 45)
        · rw [if_pos h2, if_pos h2, form_cut false cs]
        · rw [if_neg h2, if_neg h2]; rfl
theorem cut_len : ∀ cs : List Nat, (cutP cs).2.length = cs.count 46
  | [] => rfl
  | c :: cs => by
    rw [cutP]
    by_cases h : c = 46
    · rw [if_pos h, h, List.count_cons_self, List.length_cons, cut_len cs]
    · rw [if_neg h, List.count_cons_of_ne (by simpa using h), cut_len cs]
theorem digit_q (c : Int) : name_digit.f c = some (decide (48 ≤ c) && decide (c ≤ 57)) := by
  unfold name_digit.f name_between.f
  by_cases h : c ≥ 48
  · rw [if_pos h, Option.bind_some, decide_eq_true (show 48 ≤ c by omega)]; rfl
  · rw [if_neg h, Option.bind_some, decide_eq_false (show ¬ 48 ≤ c by omega)]; rfl
theorem form_st (k : Nat) (first : Bool) (c : Nat) : ∃ t, name_formed.st (k + 1) first (c : Int) = some t ∧
    ((t = 0 ∧ ∀ cs, formG first (c :: cs) = false) ∨ (t = 1 ∧ ∀ cs, formG first (c :: cs) = formG false cs) ∨ (t = 2 ∧ ∀ cs, formG first (c :: cs) = formG true cs)) := by
  unfold name_formed.st
  by_cases h46 : c = 46
  · subst h46
    rw [if_pos (by decide)]
    cases first with
    | true => exact ⟨0, rfl, .inl ⟨rfl, fun cs => by rw [formG]; rfl⟩⟩
    | false => exact ⟨2, rfl, .inr (.inr ⟨rfl, fun cs => by rw [formG]; rfl⟩)⟩
  rw [if_neg (by omega), letter_q (c : Int) k, Option.bind_some]
  by_cases hl : letB (c : Int) = true
  · rw [if_pos hl]
    exact ⟨1, rfl, .inr (.inl ⟨rfl, fun cs => by rw [formG, if_neg h46, if_pos (.inl hl)]⟩)⟩
  rw [if_neg hl]
  by_cases h95 : c = 95
  · rw [if_pos (by omega)]
    exact ⟨1, rfl, .inr (.inl ⟨rfl, fun cs => by rw [formG, if_neg h46, if_pos (.inr h95)]⟩)⟩
  have hno : ¬ (letB (c : Int) = true ∨ c = 95) := fun h => h.elim hl h95
  rw [if_neg (by omega)]
  cases first with
  | true =>
    exact ⟨0, rfl, .inl ⟨rfl, fun cs => by rw [formG, if_neg h46, if_neg hno, if_neg (fun h => by cases h.1)]⟩⟩
  | false =>
    rw [if_neg (by decide), digit_q, Option.bind_some]
    by_cases hd : 48 ≤ c ∧ c ≤ 57
    · rw [if_pos (by rw [decide_eq_true (by omega), decide_eq_true (by omega)]; rfl)]
      exact ⟨1, rfl, .inr (.inl ⟨rfl, fun cs => by rw [formG, if_neg h46, if_neg hno, if_pos ⟨rfl, .inl hd⟩]⟩)⟩
    have hnd : ¬ ((decide (48 ≤ (c : Int)) && decide ((c : Int) ≤ 57)) = true) := by
      rw [Bool.and_eq_true, decide_eq_true_eq, decide_eq_true_eq]; omega
    rw [if_neg hnd]
    by_cases h45 : c = 45
    · rw [if_pos (by omega)]
      exact ⟨1, rfl, .inr (.inl ⟨rfl, fun cs => by rw [formG, if_neg h46, if_neg hno, if_pos ⟨rfl, .inr h45⟩]⟩)⟩
    · rw [if_neg (by omega)]
      exact ⟨0, rfl, .inl ⟨rfl, fun cs => by rw [formG, if_neg h46, if_neg hno, if_neg (fun h => h.2.elim hd h45)]⟩⟩
theorem form_go (s : ByteArray) (k : Nat) : ∀ (cs : List Nat) (f pos : Nat) (first : Bool), (∀ c ∈ cs, okC c) → pos ≤ s.size → s.data.toList.drop pos = encL cs → s.size - pos < f → name_formed.go (k + 1) s f pos first = some (formG first cs)
  | cs, 0, pos, first, ho, hp, hd, hf => by omega
  | [], f + 1, pos, first, ho, hp, hd, hf => by
    have hl := congrArg List.length hd
    rw [List.length_drop, ← size_len] at hl
    have e : (encL []).length = 0 := rfl
    rw [name_formed.go, if_neg (by omega)]; rfl
  | c :: cs, f + 1, pos, first, ho, hp, hd, hf => by
    have hl := congrArg List.length hd
    have hp1 := enc_pos c
    rw [List.length_drop, ← size_len, encL, List.length_append] at hl
    have hlt : pos < s.size := by omega
    have hdec : dec (s.data.toList.drop pos) = (c, (encodeRune (c : Int)).length) := by rw [hd, encL]; exact dec_encode c (ho c (List.mem_cons_self ..)) _
    have e : Utf8.decode s pos = (c, (encodeRune (c : Int)).length) := by
      rw [decode_dec s pos hlt (by rw [hdec]; show (encodeRune (c : Int)).length ≠ 0; omega), hdec]
    obtain ⟨t, t1, t2⟩ := form_st k first c
    have ih := fun b => form_go s k cs f (pos + (encodeRune (c : Int)).length) b (fun x hx => ho x (List.mem_cons_of_mem _ hx)) (by omega) (by rw [← List.drop_drop, hd, encL, List.drop_left]) (by omega)
    rw [name_formed.go, if_pos hlt, e]
    dsimp only
    rw [t1, Option.bind_some]
    rcases t2 with ⟨rfl, h⟩ | ⟨rfl, h⟩ | ⟨rfl, h⟩
    · rw [if_pos rfl, h]
    · rw [if_neg (by decide), h]; exact ih false
    · rw [if_neg (by decide), h]; exact ih true
/-- Has a text the form of a name? -/
def formedB (s : ByteArray) : Bool := decide (s.size ≠ 0) && (validD s.data.toList && formG true (runesOf s.data.toList))
theorem formed_q (s : ByteArray) (hs : s.size < 1000000) (k : Nat) : name_formed.f (k + 1) s = some (formedB s) := by
  unfold name_formed.f formedB
  rw [if_pos (by omega)]
  by_cases hz : s.size = 0
  · rw [if_pos ((toList_nil s).2 hz), decide_eq_false (by omega)]; rfl
  rw [if_neg (fun h => hz ((toList_nil s).1 h)), decide_eq_true hz]
  by_cases hv : validD s.data.toList = true
  · obtain ⟨e1, o1⟩ := valid_runesL _ hv
    rw [if_pos hv, hv, form_go s k _ (s.size + 1) 0 true o1 (Nat.zero_le _) e1.symm (by omega)]; rfl
  · rw [if_neg hv, Bool.eq_false_iff.2 hv]; rfl
theorem part_l0 (cs : List Nat) (hl : cs.length < 100000) (k : Nat) : ∀ (m i : Nat), i + m = cs.length → caduceusref02_part.l0 (k + m + 3) (ints cs) (i : Int) = some (partG (decide (i = 0)) (cs.drop i))
  | 0, i, hi => by
    have hil : (ints cs).length = cs.length := by unfold ints; rw [List.length_map]
    rw [caduceusref02_part.l0, if_neg (by omega), List.drop_of_length_le (by omega), partG]
    by_cases h0 : i = 0
    · rw [decide_eq_true h0, decide_eq_false (by omega)]; rfl
    · rw [decide_eq_false h0, decide_eq_true (by omega)]; rfl
  | m + 1, i, hi => by
    have hil : (ints cs).length = cs.length := by unfold ints; rw [List.length_map]
    have hlt : i < cs.length := by omega
    have hr : rd (ints cs) (i : Int) = (cs[i] : Int) := by
      unfold rd ints
      rw [Int.toNat_natCast, List.getD_eq_getElem?_getD, List.getElem?_map, List.getElem?_eq_getElem hlt]; rfl
    have ih := part_l0 cs hl k m (i + 1) (by omega)
    rw [decide_eq_false (show ¬ i + 1 = 0 by omega)] at ih
    have w1 : wrap64 ((i : Int) + 1) = ((i + 1 : Nat) : Int) := by rw [w64 (by omega) (by omega)]; omega
    rw [List.drop_eq_getElem_cons hlt, partG, show k + (m + 1) + 3 = (k + m + 3) + 1 by omega, caduceusref02_part.l0, if_pos (by omega), if_pos (by omega), hr, show k + m + 3 = (k + m + 1) + 2 by omega, letter_r, Option.bind_some, w1]
    generalize cs[i] = c
    by_cases hlet : letB (c : Int) = true
    · rw [if_pos hlet, if_pos (.inl hlet)]; exact ih
    rw [if_neg hlet]
    by_cases h95 : c = 95
    · rw [if_pos (show (c : Int) = 95 by omega), if_pos (show letB (c : Int) = true ∨ c = 95 from .inr h95)]; exact ih
    rw [if_neg (show ¬ (c : Int) = 95 by omega), if_neg (show ¬ (letB (c : Int) = true ∨ c = 95) from fun h => h.elim hlet h95)]
    clear hlet
    by_cases h0 : i = 0
    · rw [if_pos (show (i : Int) = 0 by omega), decide_eq_true h0, if_neg (fun h => by cases h.1)]
    rw [if_neg (show ¬ (i : Int) = 0 by omega), decide_eq_false h0]
    by_cases h45 : c = 45
    · rw [if_pos (show (c : Int) = 45 by omega), if_pos ⟨rfl, .inr h45⟩]; exact ih
    rw [if_neg (show ¬ (c : Int) = 45 by omega)]
    by_cases h48 : c < 48
    · rw [if_pos (show (c : Int) < 48 by omega), if_neg (fun h => by have := h.2; omega)]
    rw [if_neg (show ¬ (c : Int) < 48 by omega)]
    by_cases h57 : c > 57
    · rw [if_pos (show (c : Int) > 57 by omega), if_neg (fun h => by have := h.2; omega)]
    · rw [if_neg (show ¬ (c : Int) > 57 by omega), if_pos ⟨rfl, .inl (by omega)⟩]; exact ih
theorem part_q (cs : List Nat) (hl : cs.length < 100000) (k : Nat) (hk : cs.length + 3 ≤ k) : caduceusref02_part.f k (ints cs) = some (partG true cs) := by
  have h := part_l0 cs hl (k - cs.length - 3) cs.length 0 (by omega)
  rw [show k - cs.length - 3 + cs.length + 3 = k by omega] at h
  unfold caduceusref02_part.f
  exact h
theorem split_l0 (cs : List Nat) (hl : cs.length < 100000) (k : Nat) : ∀ (m i : Nat) (acc : List (List Int)) (cur : List Int), i + m = cs.length → acc.length ≤ i → cur.length ≤ i →
    caduceusref02_Split.l0 (k + m + 1) (ints cs) acc cur (i : Int) = some (acc ++ (cur ++ ints (cutP (cs.drop i)).1) :: (cutP (cs.drop i)).2.map ints)
  | 0, i, acc, cur, hi, ha, hc => by
    have hil : (ints cs).length = cs.length := by unfold ints; rw [List.length_map]
    rw [caduceusref02_Split.l0, if_neg (by omega), if_pos (by omega), List.drop_of_length_le (by omega), cutP]
    show some (acc ++ [cur]) = some (acc ++ [cur ++ []])
    rw [List.append_nil]
  | m + 1, i, acc, cur, hi, ha, hc => by
    have hil : (ints cs).length = cs.length := by unfold ints; rw [List.length_map]
    have hlt : i < cs.length := by omega
    have hr : rd (ints cs) (i : Int) = (cs[i] : Int) := by
      unfold rd ints
      rw [Int.toNat_natCast, List.getD_eq_getElem?_getD, List.getElem?_map, List.getElem?_eq_getElem hlt]; rfl
    have w1 : wrap64 ((i : Int) + 1) = ((i + 1 : Nat) : Int) := by rw [w64 (by omega) (by omega)]; omega
    rw [List.drop_eq_getElem_cons hlt, cutP, show k + (m + 1) + 1 = (k + m + 1) + 1 by omega, caduceusref02_Split.l0, if_pos (by omega), if_pos (by omega), hr, w1]
    generalize cs[i] = c
    by_cases h : c = 46
    · rw [if_pos (by omega), if_pos h, if_pos (by omega), split_l0 cs hl k m (i + 1) (acc ++ [cur]) [] (by omega) (by rw [List.length_append]; show acc.length + 1 ≤ _; omega) (by simp), List.append_assoc]
      show some (acc ++ (cur :: _)) = some (acc ++ ((cur ++ ints []) :: _))
      rw [show ints [] = [] from rfl, List.append_nil]; rfl
    · rw [if_neg (by omega), if_neg h, if_pos (by omega), split_l0 cs hl k m (i + 1) acc (cur ++ [(c : Int)]) (by omega) (by omega) (by rw [List.length_append]; show cur.length + 1 ≤ _; omega), List.append_assoc]
      rfl
theorem split_q (cs : List Nat) (hl : cs.length < 100000) (k : Nat) (hk : cs.length + 1 ≤ k) : caduceusref02_Split.f k (ints cs) = some ((ints (cutP cs).1 :: (cutP cs).2.map ints)) := by
  have h := split_l0 cs hl (k - cs.length - 1) cs.length 0 [] [] (by omega) (by simp) (by simp)
  rw [show k - cs.length - 1 + cs.length + 1 = k by omega] at h
  unfold caduceusref02_Split.f
  exact h
end Go.Proofs.YtnbbajiabbmdmaaGreatDoor.U8
namespace Go.Proofs.YtnbbajiabbmdmaaGreatDoor.U8
open Go.RowKit Go.Proofs.YtnbbajiabbmdmaaGreatDoor.A Go.Proofs.YtnbbajiabbmdmaaGreatDoorW.PrintWords Go.Proofs.YtnbbajiabbmdmaaGreatDoorW.PrintLast Go.Lib
set_option linter.unusedVariables false
set_option linter.unusedSimpArgs false
theorem enc_high (c : Nat) (h : okC c) (hc : 128 ≤ c) : ∀ b ∈ encodeRune (c : Int), 128 ≤ b.toNat := by
  unfold okC at h
  unfold encodeRune
  intro b hb
  obtain ⟨x, hx, rfl⟩ := List.mem_map.1 hb
  have key : ∃ n : Nat, x = (n : Int) ∧ 128 ≤ n ∧ n < 256 := by
    by_cases c2 : c < 2048
    · rw [encodeRuneZ_two (by omega) (by omega)] at hx
      rcases List.mem_cons.1 hx with rfl | hx
      · exact ⟨192 + c / 64, by omega, by omega, by omega⟩
      rcases List.mem_cons.1 hx with rfl | hx
      · exact ⟨128 + c % 64, by omega, by omega, by omega⟩
      · cases hx
    by_cases c3 : c < 65536
    · rw [encodeRuneZ_three (by omega)] at hx
      rcases List.mem_cons.1 hx with rfl | hx
      · exact ⟨224 + c / 4096, by omega, by omega, by omega⟩
      rcases List.mem_cons.1 hx with rfl | hx
      · exact ⟨128 + c / 64 % 64, by omega, by omega, by omega⟩
      rcases List.mem_cons.1 hx with rfl | hx
      · exact ⟨128 + c % 64, by omega, by omega, by omega⟩
      · cases hx
    · rw [encodeRuneZ_four (by omega) (by omega)] at hx
      rcases List.mem_cons.1 hx with rfl | hx
      · exact ⟨240 + c / 262144, by omega, by omega, by omega⟩
      rcases List.mem_cons.1 hx with rfl | hx
      · exact ⟨128 + c / 4096 % 64, by omega, by omega, by omega⟩
      rcases List.mem_cons.1 hx with rfl | hx
      · exact ⟨128 + c / 64 % 64, by omega, by omega, by omega⟩
      rcases List.mem_cons.1 hx with rfl | hx
      · exact ⟨128 + c % 64, by omega, by omega, by omega⟩
      · cases hx
  obtain ⟨n, rfl, h1, h2⟩ := key
  rw [Int.toNat_natCast, u8n n h2]
  exact h1
theorem count_enc (k : Nat) (hk : k < 128) : ∀ cs : List Nat, (∀ c ∈ cs, okC c) → (encL cs).count k.toUInt8 = cs.count k
  | [], _ => rfl
  | c :: cs, ho => by
    rw [encL, List.count_append, count_enc k hk cs (fun x hx => ho x (List.mem_cons_of_mem _ hx)), List.count_cons]
    have e : (encodeRune (c : Int)).count k.toUInt8 = if (c == k) = true then 1 else 0 := by
      by_cases h1 : c < 128
      · unfold encodeRune
        rw [encodeRuneZ_one (by omega) (by omega)]
        show [((c : Int).toNat.toUInt8)].count k.toUInt8 = _
        rw [Int.toNat_natCast, List.count_cons, List.count_nil, Nat.zero_add]
        by_cases hck : c = k
        · rw [hck, if_pos (beq_self_eq_true _), if_pos (beq_self_eq_true _)]
        · rw [if_neg (fun h => hck ?_), if_neg (fun h => hck (eq_of_beq h))]
          have h2 := congrArg UInt8.toNat (eq_of_beq h)
          rw [u8n c (by omega), u8n k (by omega)] at h2
          exact h2
      · rw [if_neg (fun h => by have := eq_of_beq h; omega), List.count_eq_zero]
        intro hm
        have := enc_high c (ho c List.mem_cons_self) (by omega) _ hm
        rw [u8n k (by omega)] at this
        omega
    rw [e]; omega
theorem encL_len : ∀ cs : List Nat, cs.length ≤ (encL cs).length
  | [] => Nat.le_refl _
  | c :: cs => by
    have := encL_len cs; have := enc_pos c
    rw [encL, List.length_append, List.length_cons]; omega
theorem cut_small : ∀ cs : List Nat, (cutP cs).1.length ≤ cs.length ∧ ∀ p ∈ (cutP cs).2, p.length ≤ cs.length
  | [] => ⟨Nat.le_refl _, fun p h => by cases h⟩
  | c :: cs => by
    obtain ⟨i1, i2⟩ := cut_small cs
    rw [cutP, List.length_cons]
    by_cases h : c = 46
    · rw [if_pos h]
      refine ⟨Nat.zero_le _, fun p hp => ?_⟩
      rcases List.mem_cons.1 hp with rfl | hp
      · omega
      · have := i2 p hp; omega
    · rw [if_neg h]
      refine ⟨by show (c :: (cutP cs).1).length ≤ _; rw [List.length_cons]; omega, fun p hp => ?_⟩
      have := i2 p hp; omega
/-- What both say of a name. -/
def checkN (s : ByteArray) : Int := if formedB s = true then (if (runesOf s.data.toList).length > 40 then 2 else if (runesOf s.data.toList).count 46 ≥ 5 then 2 else 0) else 3
theorem formed_valid (s : ByteArray) (h : formedB s = true) : s.size ≠ 0 ∧ validD s.data.toList = true ∧ formG true (runesOf s.data.toList) = true := by
  unfold formedB at h
  rw [Bool.and_eq_true, Bool.and_eq_true] at h
  exact ⟨of_decide_eq_true h.1, h.2.1, h.2.2⟩
theorem check_name (s : ByteArray) (hs : s.size < 1000000) (k : Nat) : name_Check.f (k + 1) s = some (checkN s) := by
  unfold name_Check.f checkN
  rw [formed_q s hs, Option.bind_some]
  by_cases hf : formedB s = true
  · obtain ⟨h0, hv, hg⟩ := formed_valid s hf
    rw [if_pos hf, if_pos hf]
    unfold utf8_RuneCountInString.f strings_Count.f
    rw [if_pos (show s.size < 9223372036854775807 by omega), Option.bind_some, count_ev s hv]
    obtain ⟨e1, o1⟩ := valid_runesL _ hv
    have hc : Lib.countByte s.data.toList (([46] : List UInt8).getD 0 0) = (runesOf s.data.toList).count 46 := by
      have := count_enc 46 (by omega) _ o1
      rw [e1] at this
      exact this
    by_cases h1 : (runesOf s.data.toList).length > 40
    · rw [if_pos (show ((runesOf s.data.toList).length : Int) > 40 by omega), if_pos h1]
    rw [if_neg (show ¬ ((runesOf s.data.toList).length : Int) > 40 by omega), if_neg h1]
    show (some ((Lib.countByte s.data.toList (([46] : List UInt8).getD 0 0) : Nat) : Int)).bind _ = _
    rw [hc, Option.bind_some]
    by_cases h2 : (runesOf s.data.toList).count 46 ≥ 5
    · rw [if_pos (show (((runesOf s.data.toList).count 46 : Nat) : Int) ≥ 5 by omega), if_pos h2]
    · rw [if_neg (show ¬ (((runesOf s.data.toList).count 46 : Nat) : Int) ≥ 5 by omega), if_neg h2]
  · rw [if_neg hf, if_neg hf]
theorem check_l0 (cs : List Int) (ps : List (List Nat)) (hl : ps.length < 1000000) (N : Nat) (hN : N < 100000) (hp : ∀ p ∈ ps, p.length ≤ N) (k : Nat) (hk : N + 3 ≤ k) : ∀ (m i : Nat), i + m = ps.length →
    caduceusref02_Check.l0 (k + m + 1) cs (ps.map ints) (i : Int) = some (if (ps.drop i).all (partG true) = true then (if (cs.length : Int) > 40 then 2 else if (ps.length : Int) > 5 then 2 else 0) else 3)
  | 0, i, hi => by
    have hil : (ps.map ints).length = ps.length := List.length_map ..
    rw [caduceusref02_Check.l0, if_neg (by omega), List.drop_of_length_le (by omega), List.all_nil, if_pos rfl, hil]
    by_cases h1 : (cs.length : Int) > 40
    · rw [if_pos h1, if_pos h1]
    rw [if_neg h1, if_neg h1]
    by_cases h2 : (ps.length : Int) > 5
    · rw [if_pos h2, if_pos h2]
    · rw [if_neg h2, if_neg h2]
  | m + 1, i, hi => by
    have hil : (ps.map ints).length = ps.length := List.length_map ..
    have hlt : i < ps.length := by omega
    have hr : rd_L14 (ps.map ints) (i : Int) = ints ps[i] := by
      unfold rd_L14
      rw [Int.toNat_natCast, List.getD_eq_getElem?_getD, List.getElem?_map, List.getElem?_eq_getElem hlt]; rfl
    have ih := check_l0 cs ps hl N hN hp k hk m (i + 1) (by omega)
    have w1 : wrap64 ((i : Int) + 1) = ((i + 1 : Nat) : Int) := by rw [w64 (by omega) (by omega)]; omega
    have hpi := hp ps[i] (List.getElem_mem _)
    rw [show k + (m + 1) + 1 = (k + m + 1) + 1 by omega, caduceusref02_Check.l0, if_pos (by omega), if_pos (by omega), hr, part_q ps[i] (by omega) (k + m + 1) (by omega), Option.bind_some, w1, List.drop_eq_getElem_cons hlt, List.all_cons]
    by_cases hg : partG true ps[i] = true
    · rw [if_pos hg, hg, Bool.true_and]; exact ih
    · rw [if_neg hg, Bool.eq_false_iff.2 hg, Bool.false_and]; rfl
theorem check_ref (s : ByteArray) (hs : s.size < 90000) (k : Nat) (hk : 2 * s.size + 20 ≤ k) : caduceusref02_Check.f k s = some (checkN s) := by
  obtain ⟨k, rfl⟩ : ∃ j, k = j + 1 := ⟨k - 1, by omega⟩
  have h3 : caduceusref02_Check.j0 (k + 1) s true = some 3 := by rw [caduceusref02_Check.j0, if_pos rfl]
  unfold caduceusref02_Check.f checkN
  by_cases h0 : s.toList = ([] : List UInt8)
  · have := (toList_nil s).1 h0
    rw [if_pos h0, if_neg (fun h => (formed_valid s h).1 this)]; exact h3
  rw [if_neg h0, valid_ev s (by omega) _ (by omega), Option.bind_some]
  by_cases hv : validD s.data.toList = true
  rotate_left
  · rw [if_neg (fun h => hv (formed_valid s h).2.1), Bool.eq_false_iff.2 hv]; exact h3
  obtain ⟨e1, o1⟩ := valid_runesL _ hv
  have hlen : (runesOf s.data.toList).length ≤ s.size := by
    have := encL_len (runesOf s.data.toList)
    rw [e1, ← size_len] at this; exact this
  have hne : s.size ≠ 0 := fun h => h0 ((toList_nil s).2 h)
  rw [hv, caduceusref02_Check.j0, if_neg (by decide), runes_ev s (by omega) _ (by omega), Option.bind_some, split_q _ (by omega) _ (by omega), Option.bind_some]
  have hfb : formedB s = ((cutP (runesOf s.data.toList)).1 :: (cutP (runesOf s.data.toList)).2).all (partG true) := by
    unfold formedB
    rw [decide_eq_true hne, hv, form_cut, List.all_cons]; rfl
  obtain ⟨s1, s2⟩ := cut_small (runesOf s.data.toList)
  have hcl := cut_len (runesOf s.data.toList)
  have hcc : (runesOf s.data.toList).count 46 ≤ (runesOf s.data.toList).length := List.count_le_length
  generalize hps : (cutP (runesOf s.data.toList)).1 :: (cutP (runesOf s.data.toList)).2 = ps at hfb
  have hpl : ps.length = (runesOf s.data.toList).count 46 + 1 := by rw [← hps, List.length_cons, hcl]
  have hm : ints (cutP (runesOf s.data.toList)).1 :: (cutP (runesOf s.data.toList)).2.map ints = ps.map ints := by rw [← hps]; rfl
  have hil : (ints (runesOf s.data.toList)).length = (runesOf s.data.toList).length := by unfold ints; rw [List.length_map]
  have h := check_l0 (ints (runesOf s.data.toList)) ps (by omega) s.size (by omega) (fun p hp => by
    rw [← hps] at hp
    rcases List.mem_cons.1 hp with rfl | hp
    · omega
    · have := s2 p hp; omega) (k - ps.length - 1) (by omega) ps.length 0 (by omega)
  rw [show k - ps.length - 1 + ps.length + 1 = k by omega, List.drop_zero, ← hfb, hil, hpl] at h
  rw [hm]
  refine h.trans ?_
  by_cases hf : formedB s = true
  rotate_left
  · rw [if_neg hf, if_neg hf]
  rw [if_pos hf, if_pos hf]
  by_cases h1 : (runesOf s.data.toList).length > 40
  · rw [if_pos (show ((runesOf s.data.toList).length : Int) > 40 by omega), if_pos h1]
  rw [if_neg (show ¬ ((runesOf s.data.toList).length : Int) > 40 by omega), if_neg h1]
  by_cases h2 : (runesOf s.data.toList).count 46 ≥ 5
  · rw [if_pos (show ((((runesOf s.data.toList).count 46 + 1 : Nat)) : Int) > 5 by omega), if_pos h2]
  · rw [if_neg (show ¬ ((((runesOf s.data.toList).count 46 + 1 : Nat)) : Int) > 5 by omega), if_neg h2]
end Go.Proofs.YtnbbajiabbmdmaaGreatDoor.U8
namespace Go.Proofs.YtnbbajiabbmdmaaGreatDoor.U8
open Go.RowKit Go.Proofs.YtnbbajiabbmdmaaGreatDoor.A Go.Proofs.YtnbbajiabbmdmaaGreatDoorW.PrintWords Go.Proofs.YtnbbajiabbmdmaaGreatDoorW.PrintLast Go.Lib
set_option linter.unusedVariables false
set_option linter.unusedSimpArgs false
def simpleB (s : ByteArray) : Bool := decide (checkN s = 0) && decide ((runesOf s.data.toList).count 46 = 0)
theorem check0 (s : ByteArray) (h : checkN s = 0) : formedB s = true := by
  unfold checkN at h
  by_cases hf : formedB s = true
  · exact hf
  · rw [if_neg hf] at h; omega
theorem simple_q (s : ByteArray) (hs : s.size < 1000000) (k : Nat) : schema_simple.f (k + 1) s = some (simpleB s) := by
  unfold schema_simple.f name_Parts.f simpleB
  rw [check_name s hs, Option.bind_some]
  by_cases h : checkN s = 0
  · obtain ⟨h0, hv, hg⟩ := formed_valid s (check0 s h)
    obtain ⟨e1, o1⟩ := valid_runesL _ hv
    rw [if_pos h, Option.bind_some, if_pos h, decide_eq_true h, Bool.true_and]
    unfold strings_Split.f
    rw [if_pos (show s.size < 4294967281 by omega), if_pos (by decide), Option.bind_some, Option.bind_some]
    have hl := Lib.splitB_all (⟨#[46]⟩ : ByteArray) (by decide) 0 (Lib.countB s ⟨#[46]⟩) s rfl
    have hc : Lib.countB s ⟨#[46]⟩ = (runesOf s.data.toList).count 46 := by
      have h1 := count_enc 46 (by omega) _ o1
      rw [e1] at h1
      exact (Lib.count_one 46 s.data.toList).trans h1
    rw [hl, hc]
    by_cases hz : (runesOf s.data.toList).count 46 = 0
    · rw [decide_eq_true hz, hz]; rfl
    · rw [decide_eq_false hz]
      refine congrArg some (beq_eq_false_iff_ne.2 ?_)
      omega
  · rw [if_neg h, decide_eq_false h, Bool.false_and]
theorem cut_mem : ∀ (cs : List Nat), (∀ c ∈ (cutP cs).1, c ∈ cs) ∧ ∀ p ∈ (cutP cs).2, ∀ c ∈ p, c ∈ cs
  | [] => ⟨fun c h => (by cases h), fun p h => (by cases h)⟩
  | c :: cs => by
    obtain ⟨i1, i2⟩ := cut_mem cs
    rw [cutP]
    by_cases h : c = 46
    · rw [if_pos h]
      refine ⟨fun x hx => (by cases hx), fun p hp x hx => ?_⟩
      rcases List.mem_cons.1 hp with rfl | hp
      · exact List.mem_cons_of_mem _ (i1 x hx)
      · exact List.mem_cons_of_mem _ (i2 p hp x hx)
    · rw [if_neg h]
      refine ⟨fun x hx => ?_, fun p hp x hx => List.mem_cons_of_mem _ (i2 p hp x hx)⟩
      rcases List.mem_cons.1 hx with rfl | hx
      · exact List.mem_cons_self
      · exact List.mem_cons_of_mem _ (i1 x hx)
theorem enc4 (c : Nat) : (encodeRune (c : Int)).length ≤ 4 := by
  unfold encodeRune
  rw [List.length_map]
  exact (encodeRuneZ_length (c : Int)).2
theorem bytes_e (c : Nat) (h : okC c) : ∃ E : ByteArray, caduceusref02_Bytes.f (c : Int) = some E ∧ E.size ≤ 4 := by
  refine ⟨_, bytes_q c h, ?_⟩
  rw [size_len]
  have h4 := enc4 c
  generalize encodeRune (c : Int) = l at h4
  exact h4
theorem ints_len (p : List Nat) : (ints p).length = p.length := by unfold ints; rw [List.length_map]
theorem rdL (ps : List (List Nat)) (j : Nat) (hj : j < ps.length) : rd_L14 (ps.map ints) (j : Int) = ints ps[j] := by
  unfold rd_L14
  rw [Int.toNat_natCast, List.getD_eq_getElem?_getD, List.getElem?_map, List.getElem?_eq_getElem hj]; rfl
theorem rdi (p : List Nat) (i : Nat) (h : i < p.length) : rd (ints p) (i : Int) = ((p[i] : Nat) : Int) := by
  unfold rd ints
  rw [Int.toNat_natCast, List.getD_eq_getElem?_getD, List.getElem?_map, List.getElem?_eq_getElem h]; rfl
theorem w1n (i : Nat) (h : i < 200000) : wrap64 ((i : Int) + 1) = ((i + 1 : Nat) : Int) := by rw [w64 (by omega) (by omega)]; omega
theorem parts_l1 (xs : List (List Int)) (p : List Nat) (acc : List ByteArray) (j : Nat) (hj : (j : Int) < (xs.length : Int)) (hp : rd_L14 xs (j : Int) = ints p) (hl : p.length < 100000) (ho : ∀ c ∈ p, okC c) (ha : acc.length < 8796093022208) (hjj : j < 200000) : ∀ (m i f : Nat) (t : ByteArray), i + m = p.length → t.size ≤ 4 * i → m + 1 ≤ f →
    ∃ u, caduceusref02_Parts.l1 f xs acc (j : Int) t (i : Int) = caduceusref02_Parts.l0 (f - m - 1) xs (acc ++ [u]) ((j + 1 : Nat) : Int)
  | 0, i, f, t, hi, ht, hf => by
    obtain ⟨f, rfl⟩ : ∃ g, f = g + 1 := ⟨f - 1, (Nat.sub_add_cancel hf).symm⟩
    have h1 : ¬ ((i : Int) < ((ints p).length : Int)) := by rw [ints_len]; omega
    refine ⟨t, ?_⟩
    rw [caduceusref02_Parts.l1, if_pos (Int.natCast_nonneg j), if_pos hj, hp, if_neg h1, if_pos ha, w1n j hjj]
    rfl
  | m + 1, i, f, t, hi, ht, hf => by
    obtain ⟨f, rfl⟩ : ∃ g, f = g + 1 := ⟨f - 1, (Nat.sub_add_cancel (Nat.le_trans (Nat.succ_le_succ (Nat.zero_le _)) hf)).symm⟩
    have hlt : i < p.length := by omega
    have h1 : (i : Int) < ((ints p).length : Int) := by rw [ints_len]; omega
    have hi2 : i < 200000 := by omega
    obtain ⟨E, hE, hE4⟩ := bytes_e p[i] (ho _ (List.getElem_mem _))
    have hcat : t.size + E.size ≤ 9223372036854775807 := by clear hE; omega
    have hsz : (t ++ E).size ≤ 4 * (i + 1) := by clear hE; rw [ByteArray.size_append]; omega
    have hf2 : m + 1 ≤ f := by clear hE; omega
    have hi3 : i + 1 + m = p.length := by clear hE; omega
    obtain ⟨u, hu⟩ := parts_l1 xs p acc j hj hp hl ho ha hjj m (i + 1) f (t ++ E) hi3 hsz hf2
    have e : f + 1 - (m + 1) - 1 = f - m - 1 := by clear hE hu; omega
    refine ⟨u, ?_⟩
    rw [caduceusref02_Parts.l1, if_pos (Int.natCast_nonneg j), if_pos hj, hp, if_pos h1, if_pos (Int.natCast_nonneg i), rdi p i hlt, hE, Option.bind_some, if_pos hcat, w1n i hi2, e]
    exact hu
theorem parts_l0 (ps : List (List Nat)) (N : Nat) (hN : N < 100000) (hp : ∀ p ∈ ps, p.length ≤ N) (hl : ps.length < 100000) (ho : ∀ p ∈ ps, ∀ c ∈ p, okC c) : ∀ (m i f : Nat) (acc : List ByteArray), i + m = ps.length → acc.length = i → m * (N + 2) + 1 ≤ f →
    ∃ l, caduceusref02_Parts.l0 f (ps.map ints) acc (i : Int) = some l ∧ l.length = ps.length
  | 0, i, f, acc, hi, ha, hf => by
    obtain ⟨f, rfl⟩ : ∃ g, f = g + 1 := ⟨f - 1, by omega⟩
    have hil : (ps.map ints).length = ps.length := List.length_map ..
    exact ⟨acc, by rw [caduceusref02_Parts.l0, if_neg (by omega)], by omega⟩
  | m + 1, i, f, acc, hi, ha, hf => by
    obtain ⟨f, rfl⟩ : ∃ g, f = g + 1 := ⟨f - 1, by omega⟩
    have hil : (ps.map ints).length = ps.length := List.length_map ..
    have hlt : i < ps.length := by omega
    have hm := hp ps[i] (List.getElem_mem _)
    rw [Nat.add_mul, Nat.one_mul] at hf
    obtain ⟨u, hu⟩ := parts_l1 (ps.map ints) ps[i] acc i (by omega) (rdL ps i hlt) (by omega) (ho _ (List.getElem_mem _)) (by omega) (by omega) ps[i].length 0 f ⟨#[]⟩ (by omega) (Nat.le_refl _) (by omega)
    rw [caduceusref02_Parts.l0, if_pos (by omega)]
    obtain ⟨l, e, h⟩ := parts_l0 ps N hN hp hl ho m (i + 1) (f - ps[i].length - 1) (acc ++ [u]) (by omega) (by rw [List.length_append]; show acc.length + 1 = _; omega) (by omega)
    exact ⟨l, hu.trans e, h⟩
theorem simple_r (s : ByteArray) (hs : s.size < 90000) (k : Nat) (hk : (s.size + 2) * (s.size + 2) + 2 * s.size + 20 ≤ k) : caduceusref04_Simple.f k s = some (simpleB s) := by
  have hmul : 0 ≤ (s.size + 2) * (s.size + 2) := Nat.zero_le _
  unfold caduceusref04_Simple.f caduceusref02_Parts.f simpleB
  rw [check_ref s hs k (by omega), Option.bind_some]
  by_cases h : checkN s = 0
  · obtain ⟨h0, hv, hg⟩ := formed_valid s (check0 s h)
    obtain ⟨e1, o1⟩ := valid_runesL _ hv
    have hlen : (runesOf s.data.toList).length ≤ s.size := by
      have := encL_len (runesOf s.data.toList)
      rw [e1, ← size_len] at this; exact this
    rw [if_pos h, Option.bind_some, if_pos h, decide_eq_true h, Bool.true_and, runes_ev s (by omega) _ (by omega), Option.bind_some, split_q _ (by omega) _ (by omega), Option.bind_some]
    obtain ⟨s1, s2⟩ := cut_small (runesOf s.data.toList)
    obtain ⟨m1, m2⟩ := cut_mem (runesOf s.data.toList)
    have hcl := cut_len (runesOf s.data.toList)
    have hcc : (runesOf s.data.toList).count 46 ≤ (runesOf s.data.toList).length := List.count_le_length
    obtain ⟨l, e, hl⟩ := parts_l0 ((cutP (runesOf s.data.toList)).1 :: (cutP (runesOf s.data.toList)).2) s.size (by omega)
      (fun p hp => by
        rcases List.mem_cons.1 hp with rfl | hp
        · omega
        · have := s2 p hp; omega)
      (by rw [List.length_cons]; omega)
      (fun p hp c hc => by
        rcases List.mem_cons.1 hp with rfl | hp
        · exact o1 c (m1 c hc)
        · exact o1 c (m2 p hp c hc))
      ((cutP (runesOf s.data.toList)).2.length + 1) 0 k [] (by rw [List.length_cons]; omega) rfl (by
        have : ((cutP (runesOf s.data.toList)).2.length + 1) * (s.size + 2) ≤ (s.size + 2) * (s.size + 2) := Nat.mul_le_mul_right _ (by omega)
        omega)
    have e' : caduceusref02_Parts.l0 k (ints (cutP (runesOf s.data.toList)).1 :: List.map ints (cutP (runesOf s.data.toList)).2) ([] : List ByteArray) 0 = some l := e
    rw [e', Option.bind_some, hl, List.length_cons, hcl]
    by_cases hz : (runesOf s.data.toList).count 46 = 0
    · rw [decide_eq_true hz, hz]; rfl
    · rw [decide_eq_false hz]
      refine congrArg some (beq_eq_false_iff_ne.2 ?_)
      omega
  · rw [if_neg h, decide_eq_false h, Bool.false_and]
end Go.Proofs.YtnbbajiabbmdmaaGreatDoor.U8
namespace Go.Proofs.YtnbbajiabbmdmaaGreatDoor.U8
open Go.RowKit Go.Proofs.YtnbbajiabbmdmaaGreatDoor.A Go.Proofs.YtnbbajiabbmdmaaGreatDoorW.PrintWords Go.Proofs.YtnbbajiabbmdmaaGreatDoorW.PrintLast Go.Lib
set_option linter.unusedVariables false
set_option linter.unusedSimpArgs false
def fieldB (s : ByteArray) (n : Int) : Bool := simpleB s && (decide (1 ≤ n) && decide (n ≤ 4))
theorem field_q (s : ByteArray) (n : Int) (m : Bool) (hs : s.size < 1000000) (k : Nat) : schema_field.f (k + 1) s n m = some (fieldB s n) := by
  unfold schema_field.f fieldB
  rw [simple_q s hs, Option.bind_some]
  by_cases h : simpleB s = true
  · rw [if_pos h, h, Bool.true_and]
    unfold schema_word.f
    rw [Option.bind_some]
    by_cases h1 : n = 1
    · subst h1; decide +kernel
    by_cases h2 : n = 2
    · subst h2; decide +kernel
    by_cases h3 : n = 3
    · subst h3; decide +kernel
    by_cases h4 : n = 4
    · subst h4; decide +kernel
    rw [if_neg h1, if_neg h2, if_neg h3, if_neg h4]
    have e : (decide (1 ≤ n) && decide (n ≤ 4)) = false := by
      by_cases h5 : 1 ≤ n
      · rw [decide_eq_false (show ¬ n ≤ 4 by omega), Bool.and_false]
      · rw [decide_eq_false h5, Bool.false_and]
    rw [e]; decide +kernel
  · rw [if_neg h, Bool.eq_false_iff.2 h, Bool.false_and]
theorem may_q (s : ByteArray) (n : Int) (m : Bool) (hs : s.size < 90000) (k : Nat) (hk : (s.size + 2) * (s.size + 2) + 2 * s.size + 20 ≤ k) : caduceusref04_may.f k s n m = some (fieldB s n) := by
  unfold caduceusref04_may.f fieldB
  rw [simple_r s hs k hk, Option.bind_some]
  by_cases h : simpleB s = true
  · rw [if_pos h, h, Bool.true_and]
    by_cases h1 : 1 ≤ n
    · rw [if_pos h1, decide_eq_true h1, Bool.true_and]
    · rw [if_neg h1, decide_eq_false h1, Bool.false_and]
  · rw [if_neg h, Bool.eq_false_iff.2 h, Bool.false_and]
end Go.Proofs.YtnbbajiabbmdmaaGreatDoor.U8
namespace Go.Proofs.YtnbbajiabbmdmaaGreatDoor.U8
open Go.RowKit Go.Proofs.YtnbbajiabbmdmaaGreatDoor.A Go.Proofs.YtnbbajiabbmdmaaGreatDoorW.PrintWords Go.Proofs.YtnbbajiabbmdmaaGreatDoorW.PrintLast Go.Lib
set_option linter.unusedVariables false
set_option linter.unusedSimpArgs false
/-- Each as it may be, each ahead of the next one. -/
def ordB {α : Type} (P : α → Bool) (R : α → α → Bool) : Option α → List α → Bool
  | _, [] => true
  | none, x :: xs => P x && ordB P R (some x) xs
  | some y, x :: xs => P x && (R y x && ordB P R (some x) xs)
theorem ordB_map {α β : Type} (f : α → β) (P : β → Bool) (R : β → β → Bool) : ∀ (o : Option α) (l : List α), ordB P R (o.map f) (l.map f) = ordB (fun x => P (f x)) (fun x y => R (f x) (f y)) o l
  | none, [] => rfl
  | some y, [] => rfl
  | none, x :: xs => by
    have ih := ordB_map f P R (some x) xs
    show (P (f x) && ordB P R ((some x).map f) (xs.map f)) = _
    rw [ih]; rfl
  | some y, x :: xs => by
    have ih := ordB_map f P R (some x) xs
    show (P (f x) && (R (f y) (f x) && ordB P R ((some x).map f) (xs.map f))) = _
    rw [ih]; rfl
def lastO {α : Type} (pre : List α) : Option α := pre.getLast?
theorem lastO_nil {α : Type} : lastO ([] : List α) = none := rfl
theorem lastO_snoc {α : Type} (q : List α) (y : α) : lastO (q ++ [y]) = some y := by unfold lastO; simp
theorem snoc_cases {α : Type} (pre : List α) : pre = [] ∨ ∃ q y, pre = q ++ [y] := by
  rcases List.eq_nil_or_concat pre with h | ⟨q, y, h⟩
  · exact .inl h
  · exact .inr ⟨q, y, by rw [h, List.concat_eq_append]⟩
theorem dec_le (n m : Nat) : (decide ((n : Int) ≤ (m : Int))) = decide (n ≤ m) := by
  by_cases h : n ≤ m
  · rw [decide_eq_true h, decide_eq_true (by omega)]
  · rw [decide_eq_false h, decide_eq_false (by omega)]
abbrev Fld := S62
abbrev FldR := S72
def fieldX (x : Fld) : Bool := fieldB x.f0 x.f1
def ltX (x y : Fld) : Bool := decide (cmpB x.f0 y.f0 < 0)
def fieldR (x : FldR) : Bool := fieldB x.f0 x.f1
def ltR (x y : FldR) : Bool := decide (cmpB x.f0 y.f0 < 0)
def checkF (l : List Fld) : Bool := ordB fieldX ltX none l && decide (l.length ≤ 24)
theorem simple_valid (s : ByteArray) (h : simpleB s = true) : validD s.data.toList = true := by
  unfold simpleB at h
  rw [Bool.and_eq_true, decide_eq_true_eq] at h
  exact (formed_valid s (check0 s h.1)).2.1
theorem fieldB_valid (s : ByteArray) (n : Int) (h : fieldB s n = true) : validD s.data.toList = true := by
  unfold fieldB at h
  rw [Bool.and_eq_true] at h
  exact simple_valid _ h.1
theorem fieldX_valid (x : Fld) (h : fieldX x = true) : validD x.f0.data.toList = true := fieldB_valid x.f0 x.f1 h
theorem fieldR_valid (x : FldR) (h : fieldR x = true) : validD x.f0.data.toList = true := fieldB_valid x.f0 x.f1 h
theorem field_ev (s : ByteArray) (n : Int) (m : Bool) (hs : s.size < 1000000) : Evn (fun k => schema_field.f k s n m) (fieldB s n) := Evn.of1 (fun k => field_q s n m hs k)
theorem may_ev (s : ByteArray) (n : Int) (m : Bool) (hs : s.size < 90000) : Evn (fun k => caduceusref04_may.f k s n m) (fieldB s n) := Evn.of _ (fun k hk => may_q s n m hs k hk)
theorem cmp_ev (a b : ByteArray) (ha : a.size < 20000) (hb : b.size < 20000) (va : validD a.data.toList = true) (vb : validD b.data.toList = true) : Evn (fun k => name_Compare.f k a b) (cmpB a b) := Evn.of _ (fun k hk => compare_q a b ha hb va vb k hk)
theorem cmpr_ev (a b : ByteArray) (ha : a.size < 20000) (hb : b.size < 20000) (va : validD a.data.toList = true) (vb : validD b.data.toList = true) : Evn (fun k => caduceusref02_Compare.f k a b) (cmpB a b) := Evn.of (4 * a.size + 20 + (4 * b.size + 20)) (fun k hk => compare_r a b ha hb va vb k (by omega) (by omega))
theorem schemacheck_l0 (l : List Fld) (hs : ∀ x ∈ l, x.f0.size < 20000) (hl : l.length < 100000) :
    ∀ post pre, l = pre ++ post → (∀ y, lastO pre = some y → fieldX y = true) → Evn (fun k => schema_Check.l0 k l l (l.length : Int) (pre.length : Int)) (ordB fieldX ltX (lastO pre) post && decide (l.length ≤ 24)) := by
  refine Evn.loop (g := fun k i => schema_Check.l0 k l l (l.length : Int) i) l (by omega) (fun pre => ∀ y, lastO pre = some y → fieldX y = true) (fun pre post => ordB fieldX ltX (lastO pre) post && decide (l.length ≤ 24)) ?_ ?_
  · intro hi hn
    refine Evn.step (fun k => schema_Check.l0.eq_2 ..) (Evn.neg hn (Evn.con ?_))
    rw [show (24 : Int) = ((24 : Nat) : Int) from rfl, dec_le]
    rcases snoc_cases l with rfl | ⟨q, y, rfl⟩
    · rfl
    · rw [lastO_snoc]; rfl
  · intro pre x post e hi hlt h0 hw hget hmem ih
    have hrd : rd_T62 l (pre.length : Int) = x := hget _
    have hsx := hs x hmem
    refine Evn.step (fun k => schema_Check.l0.eq_2 ..) (Evn.pos hlt (Evn.pos h0 (Evn.pos hlt ?_)))
    rw [hrd, hw]
    have ih' : fieldX x = true → _ := fun hx => ih (by intro y hy; rw [lastO_snoc] at hy; obtain rfl := Option.some.inj hy; exact hx)
    rw [lastO_snoc] at ih'
    rcases snoc_cases pre with rfl | ⟨q, y, rfl⟩
    · rw [lastO_nil]
      show Evn _ (((fieldB x.f0 x.f1) && ordB fieldX ltX (some x) post) && _)
      refine Evn.bind (field_ev x.f0 x.f1 x.f2 (by omega)) ?_
      by_cases h0 : fieldB x.f0 x.f1 = true
      case neg => exact Evn.val (by simp [h0]) (Evn.neg h0 (Evn.ret false))
      refine Evn.pos h0 ?_
      have hx : fieldX x = true := by show (fieldB x.f0 x.f1) = true; simp [h0]
      rw [h0]
      show Evn _ (ordB fieldX ltX (some x) post && _)
      exact Evn.neg (by decide) (ih' hx)
    · rw [lastO_snoc]
      show Evn _ (((fieldB x.f0 x.f1) && (ltX y x && ordB fieldX ltX (some x) post)) && _)
      refine Evn.bind (field_ev x.f0 x.f1 x.f2 (by omega)) ?_
      by_cases h0 : fieldB x.f0 x.f1 = true
      case neg => exact Evn.val (by simp [h0]) (Evn.neg h0 (Evn.ret false))
      refine Evn.pos h0 ?_
      have hx : fieldX x = true := by show (fieldB x.f0 x.f1) = true; simp [h0]
      rw [h0]
      show Evn _ ((ltX y x && ordB fieldX ltX (some x) post) && _)
      have hy := hi y (lastO_snoc q y)
      have hrq : rd_T62 l (q.length : Int) = y := by rw [e]; exact getDq q y _ _
      have hql : (q.length : Int) < (l.length : Int) := by rw [List.length_append] at hlt; omega
      have hym : y ∈ l := by rw [e]; simp
      rw [w1m q y (by omega), hrq]
      refine Evn.pos (by rw [List.length_append]; show ((q.length + 1 : Nat) : Int) > 0; omega) (Evn.pos (Int.natCast_nonneg _) (Evn.pos hql (Evn.bind (cmp_ev _ _ (hs y hym) (hs x hmem) (fieldX_valid y hy) (fieldX_valid x hx)) ?_)))
      unfold ltX
      by_cases hc : cmpB y.f0 x.f0 < 0
      · rw [decide_eq_true hc, Bool.true_and]
        exact Evn.neg (by omega) (ih' hx)
      · rw [decide_eq_false hc]
        exact Evn.pos (by omega) (Evn.ret _)
theorem schemacheck_ev (l : List Fld) (hs : ∀ x ∈ l, x.f0.size < 20000) (hl : l.length < 100000) : Evn (fun k => schema_Check.f k l) (ordB fieldX ltX none l && decide (l.length ≤ 24)) :=
  schemacheck_l0 l hs hl l [] rfl (fun y h => by cases h)
theorem caduceusref04check_l0 (l : List FldR) (hs : ∀ x ∈ l, x.f0.size < 20000) (hl : l.length < 100000) :
    ∀ post pre, l = pre ++ post → (∀ y, lastO pre = some y → fieldR y = true) → Evn (fun k => caduceusref04_Check.l0 k l (pre.length : Int)) (ordB fieldR ltR (lastO pre) post && decide (l.length ≤ 24)) := by
  refine Evn.loop (g := fun k i => caduceusref04_Check.l0 k l i) l (by omega) (fun pre => ∀ y, lastO pre = some y → fieldR y = true) (fun pre post => ordB fieldR ltR (lastO pre) post && decide (l.length ≤ 24)) ?_ ?_
  · intro hi hn
    refine Evn.step (fun k => caduceusref04_Check.l0.eq_2 ..) (Evn.neg hn (Evn.con ?_))
    rw [show (24 : Int) = ((24 : Nat) : Int) from rfl, dec_le]
    rcases snoc_cases l with rfl | ⟨q, y, rfl⟩
    · rfl
    · rw [lastO_snoc]; rfl
  · intro pre x post e hi hlt h0 hw hget hmem ih
    have hrd : rd_T72 l (pre.length : Int) = x := hget _
    have hsx := hs x hmem
    refine Evn.step (fun k => caduceusref04_Check.l0.eq_2 ..) (Evn.pos hlt (Evn.pos h0 ?_))
    rw [hrd, hw]
    have ih' : fieldR x = true → _ := fun hx => ih (by intro y hy; rw [lastO_snoc] at hy; obtain rfl := Option.some.inj hy; exact hx)
    rw [lastO_snoc] at ih'
    rcases snoc_cases pre with rfl | ⟨q, y, rfl⟩
    · rw [lastO_nil]
      show Evn _ (((fieldB x.f0 x.f1) && ordB fieldR ltR (some x) post) && _)
      refine Evn.bind (may_ev x.f0 x.f1 x.f2 (by omega)) ?_
      by_cases h0 : fieldB x.f0 x.f1 = true
      case neg => exact Evn.val (by simp [h0]) (Evn.neg h0 (Evn.ret false))
      refine Evn.pos h0 ?_
      have hx : fieldR x = true := by show (fieldB x.f0 x.f1) = true; simp [h0]
      rw [h0]
      show Evn _ (ordB fieldR ltR (some x) post && _)
      exact Evn.neg (by decide) (ih' hx)
    · rw [lastO_snoc]
      show Evn _ (((fieldB x.f0 x.f1) && (ltR y x && ordB fieldR ltR (some x) post)) && _)
      refine Evn.bind (may_ev x.f0 x.f1 x.f2 (by omega)) ?_
      by_cases h0 : fieldB x.f0 x.f1 = true
      case neg => exact Evn.val (by simp [h0]) (Evn.neg h0 (Evn.ret false))
      refine Evn.pos h0 ?_
      have hx : fieldR x = true := by show (fieldB x.f0 x.f1) = true; simp [h0]
      rw [h0]
      show Evn _ ((ltR y x && ordB fieldR ltR (some x) post) && _)
      have hy := hi y (lastO_snoc q y)
      have hrq : rd_T72 l (q.length : Int) = y := by rw [e]; exact getDq q y _ _
      have hql : (q.length : Int) < (l.length : Int) := by rw [List.length_append] at hlt; omega
      have hym : y ∈ l := by rw [e]; simp
      rw [w1m q y (by omega), hrq]
      refine Evn.pos (by rw [List.length_append]; show ((q.length + 1 : Nat) : Int) > 0; omega) (Evn.pos (Int.natCast_nonneg _) (Evn.pos hql (Evn.bind (cmpr_ev _ _ (hs y hym) (hs x hmem) (fieldR_valid y hy) (fieldR_valid x hx)) ?_)))
      unfold ltR
      by_cases hc : cmpB y.f0 x.f0 < 0
      · rw [decide_eq_true hc, Bool.true_and]
        exact Evn.neg (by omega) (ih' hx)
      · rw [decide_eq_false hc]
        exact Evn.pos (by omega) (Evn.ret _)
theorem caduceusref04check_ev (l : List FldR) (hs : ∀ x ∈ l, x.f0.size < 20000) (hl : l.length < 100000) : Evn (fun k => caduceusref04_Check.f k l) (ordB fieldR ltR none l && decide (l.length ≤ 24)) :=
  caduceusref04check_l0 l hs hl l [] rfl (fun y h => by cases h)
def toR (x : Fld) : FldR := ⟨x.f0, x.f1, x.f2⟩
theorem check_q (l : List Fld) (hs : ∀ x ∈ l, x.f0.size < 20000) (hl : l.length < 100000) : Evn (fun k => schema_Check.f k l) (checkF l) := schemacheck_ev l hs hl
theorem check_r (l : List Fld) (hs : ∀ x ∈ l, x.f0.size < 20000) (hl : l.length < 100000) : Evn (fun k => caduceusref04_Check.f k (l.map toR)) (checkF l) := by
  have h := caduceusref04check_ev (l.map toR) (fun x hx => by obtain ⟨y, hy, rfl⟩ := List.mem_map.1 hx; exact hs y hy) (by rw [List.length_map]; exact hl)
  have e := ordB_map toR fieldR ltR none l
  rw [List.length_map] at h
  refine Evn.val ?_ h
  show (ordB fieldR ltR (Option.map toR none) (l.map toR) && _) = _
  rw [e]; rfl
end Go.Proofs.YtnbbajiabbmdmaaGreatDoor.U8
namespace Go.Proofs.YtnbbajiabbmdmaaGreatDoor.U8
open Go.RowKit Go.Proofs.YtnbbajiabbmdmaaGreatDoor.A Go.Proofs.YtnbbajiabbmdmaaGreatDoorW.PrintWords Go.Proofs.YtnbbajiabbmdmaaGreatDoorW.PrintLast Go.Lib
set_option linter.unusedVariables false
set_option linter.unusedSimpArgs false
end Go.Proofs.YtnbbajiabbmdmaaGreatDoor.U8
namespace Go.Proofs.YtnbbajiabbmdmaaGreatDoor.U8
open Go.RowKit Go.Proofs.YtnbbajiabbmdmaaGreatDoor.A Go.Proofs.YtnbbajiabbmdmaaGreatDoorW.PrintWords Go.Proofs.YtnbbajiabbmdmaaGreatDoorW.PrintLast Go.Lib
set_option linter.unusedVariables false
set_option linter.unusedSimpArgs false
/-- Not more than statements go through. -/
def fewS {α : Type} (P : α → Bool) : Nat → List α → Bool
  | _, [] => true
  | i, x :: xs => if i ≤ 40 then (if P x = true then fewS P (i + 1) xs else false) else false
theorem fewS_true {α : Type} (P : α → Bool) : ∀ (l : List α) (i : Nat), fewS P i l = true → (l = [] ∨ i + l.length ≤ 41) ∧ ∀ x ∈ l, P x = true
  | [], i, h => ⟨.inl rfl, fun x hx => by cases hx⟩
  | x :: xs, i, h => by
    rw [fewS] at h
    by_cases h1 : i ≤ 40
    · rw [if_pos h1] at h
      by_cases h2 : P x = true
      · rw [if_pos h2] at h
        obtain ⟨h3, h4⟩ := fewS_true P xs (i + 1) h
        refine ⟨.inr ?_, fun y hy => ?_⟩
        · rw [List.length_cons]
          rcases h3 with rfl | h3
          · show i + (0 + 1) ≤ 41; omega
          · omega
        · rcases List.mem_cons.1 hy with rfl | hy
          · exact h2
          · exact h4 y hy
      · rw [if_neg h2] at h; cases h
    · rw [if_neg h1] at h; cases h
def fewF (l : List Fld) : Bool := fewS (fun x => decide (x.f0.size ≤ 200)) 0 l
theorem fewF_ev (l : List Fld) : Evn (fun k => caduceuslaw04_Few.f k l) (fewF l) := by
  refine Evn.loopS (g := fun k i => caduceuslaw04_Few.l0 k l i) l (fun _ => True) (fun pre post => fewS (fun x => decide (x.f0.size ≤ 200)) pre.length post) ?_ ?_ l [] rfl trivial
  · intro _ hn
    exact Evn.step (fun k => caduceuslaw04_Few.l0.eq_2 ..) (Evn.neg hn (Evn.ret _))
  · intro pre x post e _ hlt h0 hw hget hmem ih
    have hrd : rd_T62 l (pre.length : Int) = x := hget _
    refine Evn.step (fun k => caduceuslaw04_Few.l0.eq_2 ..) (Evn.pos hlt ?_)
    rw [hrd, fewS]
    by_cases h1 : pre.length ≤ 40
    · rw [if_pos h1, hw (by omega)]
      refine Evn.neg (by omega) (Evn.pos h0 ?_)
      by_cases h2 : x.f0.size ≤ 200
      · rw [if_pos (decide_eq_true h2)]
        refine Evn.neg (by omega) ?_
        exact Evn.val (by rw [snocLen]) (ih trivial)
      · rw [if_neg (by rw [decide_eq_false h2]; decide)]
        exact Evn.pos (by omega) (Evn.ret _)
    · rw [if_neg h1]
      exact Evn.pos (by omega) (Evn.ret _)
theorem fewF_true (l : List Fld) (h : fewF l = true) : l.length ≤ 41 ∧ ∀ x ∈ l, x.f0.size ≤ 200 := by
  obtain ⟨h1, h2⟩ := fewS_true _ l 0 h
  refine ⟨?_, fun x hx => of_decide_eq_true (h2 x hx)⟩
  rcases h1 with rfl | h1
  · exact Nat.zero_le _
  · omega
theorem refsF_ev (l : List Fld) (hl : l.length < 1000000) : Evn (fun k => caduceuslaw04_Refs.f k l) (l.map toR) := by
  have h : ∀ (post pre : List Fld), l = pre ++ post → True → Evn (fun k => caduceuslaw04_Refs.l0 k l (pre.map toR) (pre.length : Int)) (l.map toR) := by
    intro post
    induction post with
    | nil =>
      intro pre e _
      rw [List.append_nil] at e
      subst e
      exact Evn.step (fun k => caduceuslaw04_Refs.l0.eq_2 ..) (Evn.neg (by omega) (Evn.ret _))
    | cons x post ih =>
      intro pre e _
      have hlt : (pre.length : Int) < (l.length : Int) := by rw [e]; exact ltp pre x post
      have hrd : rd_T62 l (pre.length : Int) = x := by rw [e]; exact getDp pre x post _
      have := ih (pre ++ [x]) (by rw [e, List.append_assoc]; rfl) trivial
      rw [List.map_append] at this
      refine Evn.step (fun k => caduceuslaw04_Refs.l0.eq_2 ..) (Evn.pos hlt (Evn.pos (Int.natCast_nonneg _) (Evn.pos (by rw [List.length_map]; omega) ?_)))
      rw [hrd, w1p pre x (by omega)]
      exact this
  exact h l [] rfl trivial
end Go.Proofs.YtnbbajiabbmdmaaGreatDoor.U8
namespace Go.Proofs.YtnbbajiabbmdmaaGreatDoor.U8
open Go.RowKit Go.Proofs.YtnbbajiabbmdmaaGreatDoor.A Go.Proofs.YtnbbajiabbmdmaaGreatDoorW.PrintWords Go.Proofs.YtnbbajiabbmdmaaGreatDoorW.PrintLast Go.Lib
set_option linter.unusedVariables false
set_option linter.unusedSimpArgs false
/-- A text out of its bytes. -/
abbrev bl (l : List UInt8) : ByteArray := ⟨l.toArray⟩
theorem bl_size (l : List UInt8) : (bl l).size = l.length := rfl
theorem bl_toList (l : List UInt8) : (bl l).toList = l := ByteArray.toList_eq _
theorem bl_ext {a b : ByteArray} (h : a.data.toList = b.data.toList) : a = b := ByteArray.ext (Array.ext' h)
theorem bl_eta (s : ByteArray) : bl s.data.toList = s := bl_ext rfl
theorem bl_eta2 (s : ByteArray) : s.toList = s.data.toList := ByteArray.toList_eq _
theorem bl_app (a b : List UInt8) : bl a ++ bl b = bl (a ++ b) := bl_ext (by rw [ByteArray.data_append, Array.toList_append])
theorem bl_appl (a : List UInt8) (s : ByteArray) : bl a ++ s = bl (a ++ s.data.toList) := bl_ext (by rw [ByteArray.data_append, Array.toList_append])
theorem bl_sub (l : List UInt8) (i j : Nat) : (bl l).extract i j = bl ((l.drop i).take (j - i)) := bl_ext (Lib.extract_data _ _ _)
theorem bl_bt (pre : List UInt8) (c : UInt8) (post : List UInt8) : bt (bl (pre ++ c :: post)) (pre.length : Int) = (c.toNat : Int) := by
  rw [bt_byt]
  unfold byt
  show (((pre ++ c :: post).getD ((pre.length : Int)).toNat 0).toNat : Int) = _
  rw [getDp]
end Go.Proofs.YtnbbajiabbmdmaaGreatDoor.U8
namespace Go.Proofs.YtnbbajiabbmdmaaGreatDoor.U8
open Go.RowKit Go.Proofs.YtnbbajiabbmdmaaGreatDoor.A Go.Proofs.YtnbbajiabbmdmaaGreatDoorW.PrintWords Go.Proofs.YtnbbajiabbmdmaaGreatDoorW.PrintLast Go.Lib
set_option linter.unusedVariables false
set_option linter.unusedSimpArgs false
/-- The word of a kind, a field's words, a schema's line. -/
def wordL (n : Int) : List UInt8 := if n = 1 then [105, 110, 116] else if n = 2 then [116, 101, 120, 116] else if n = 3 then [98, 111, 111, 108] else if n = 4 then [98, 121, 116, 101, 115] else []
def lineL (x : Fld) : List UInt8 := ((x.f0.data.toList ++ [32]) ++ wordL x.f1) ++ (if x.f2 = true then [33] else [])
def showL (l : List Fld) : List UInt8 := Lib.join (l.map lineL) [44, 32]
def showB (l : List Fld) : ByteArray := if checkF l = true then (if l.length = 0 then bl [45] else bl (showL l)) else bl []
theorem word_q (n : Int) : schema_word.f n = some (bl (wordL n)) := by
  unfold schema_word.f wordL
  by_cases h1 : n = 1
  · rw [if_pos h1, if_pos h1]
  by_cases h2 : n = 2
  · rw [if_neg h1, if_pos h2, if_neg h1, if_pos h2]
  by_cases h3 : n = 3
  · rw [if_neg h1, if_neg h2, if_pos h3, if_neg h1, if_neg h2, if_pos h3]
  by_cases h4 : n = 4
  · rw [if_neg h1, if_neg h2, if_neg h3, if_pos h4, if_neg h1, if_neg h2, if_neg h3, if_pos h4]
  · rw [if_neg h1, if_neg h2, if_neg h3, if_neg h4, if_neg h1, if_neg h2, if_neg h3, if_neg h4]
theorem word_len (n : Int) : (wordL n).length ≤ 5 := by
  unfold wordL
  split
  · decide
  split
  · decide
  split
  · decide
  split
  · decide
  · decide
theorem word_r (n : Int) (h1 : 1 ≤ n) (h4 : n ≤ 4) : caduceusref04_word.f n = some (bl (wordL n)) := by
  have : n = 1 ∨ n = 2 ∨ n = 3 ∨ n = 4 := by omega
  rcases this with rfl | rfl | rfl | rfl <;> rfl
theorem line_len (x : Fld) : (lineL x).length ≤ x.f0.size + 7 := by
  unfold lineL
  have := word_len x.f1
  rw [List.length_append, List.length_append, List.length_append, ← size_len]
  split
  · simp only [List.length_cons, List.length_nil]; omega
  · simp only [List.length_cons, List.length_nil]; omega
theorem line_q (x : Fld) (hs : x.f0.size < 20000) : schema_line.f x.f0 x.f1 x.f2 = some (bl (lineL x)) := by
  have hw := word_len x.f1
  unfold schema_line.f
  rw [word_q, if_pos (show x.f0.size + 1 ≤ 9223372036854775807 by omega), Option.bind_some, show x.f0 ++ (⟨#[32]⟩ : ByteArray) = bl (x.f0.data.toList ++ [32]) from (congrArg (fun s => s ++ bl [32]) (bl_eta x.f0).symm).trans (bl_app _ _), bl_app]
  have hl : (x.f0.data.toList ++ [32]).length = x.f0.size + 1 := by rw [List.length_append, ← size_len]; rfl
  rw [if_pos (by rw [bl_size, bl_size]; omega)]
  unfold lineL
  by_cases h : x.f2 = true
  · rw [if_pos h, if_pos (by rw [bl_size, List.length_append]; omega), if_pos h, show (⟨#[33]⟩ : ByteArray) = bl [33] from rfl, bl_app]
  · rw [if_neg h, if_neg h, List.append_nil]
theorem joins_len (l : List Fld) (hs : ∀ x ∈ l, x.f0.size < 20000) : (showL l).length ≤ 20010 * l.length := by
  unfold showL
  cases l with
  | nil => exact Nat.le_refl _
  | cons x xs =>
    rw [List.map_cons, Lib.join_cons, List.length_append]
    have h1 := line_len x
    have h2 := hs x List.mem_cons_self
    have h3 : ∀ ys : List Fld, (∀ y ∈ ys, y.f0.size < 20000) → (Lib.joinTail [44, 32] (ys.map lineL)).length ≤ 20009 * ys.length := by
      intro ys
      induction ys with
      | nil => intro _; exact Nat.le_refl _
      | cons y ys ih =>
        intro hy
        have h5 := ih (fun z hz => hy z (List.mem_cons_of_mem _ hz))
        have h6 := line_len y
        have h7 := hy y List.mem_cons_self
        have e : Lib.joinTail [44, 32] ((y :: ys).map lineL) = ([44, 32] ++ lineL y) ++ Lib.joinTail [44, 32] (ys.map lineL) := rfl
        have e2 : ([44, 32] : List UInt8).length = 2 := rfl
        rw [e, List.length_append, List.length_append, List.length_cons (a := y), e2]
        omega
    have h4 := h3 xs (fun z hz => hs z (List.mem_cons_of_mem _ hz))
    rw [List.length_cons]
    omega
theorem show_q (l : List Fld) (hs : ∀ x ∈ l, x.f0.size < 20000) (hl : l.length < 100000) : Evn (fun k => schema_Show.f k l) (showB l) := by
  unfold showB
  refine Evn.bind (check_q l hs hl) ?_
  by_cases h : checkF l = true
  · rw [if_pos h]
    refine Evn.pos h ?_
    by_cases h0 : l.length = 0
    · rw [if_pos h0]
      exact Evn.pos (by omega) (Evn.ret _)
    · rw [if_neg h0]
      refine Evn.neg (by omega) ?_
      have key : ∀ (post pre : List Fld), l = pre ++ post → Evn (fun k => schema_Show.l0 k (pre.map (fun x => bl (lineL x))) l (l.length : Int) (pre.length : Int)) (bl (showL l)) := by
        intro post
        induction post with
        | nil =>
          intro pre e
          rw [List.append_nil] at e
          subst e
          refine Evn.step (fun k => schema_Show.l0.eq_2 ..) (Evn.neg (by omega) (Evn.bc (u := bl (showL l)) ?_ (Evn.ret _)))
          unfold strings_Join.f
          have hj := joins_len l hs
          have e2 : (l.map (fun x => bl (lineL x))).map (·.data.toList) = l.map lineL := by rw [List.map_map]; rfl
          rw [e2, List.length_map]
          exact if_pos ⟨by omega, by show (showL l).length ≤ _; omega⟩
        | cons x post ih =>
          intro pre e
          have hlt : (pre.length : Int) < (l.length : Int) := by rw [e]; exact ltp pre x post
          have hrd : rd_T62 l (pre.length : Int) = x := by rw [e]; exact getDp pre x post _
          have := ih (pre ++ [x]) (by rw [e, List.append_assoc]; rfl)
          rw [List.map_append] at this
          refine Evn.step (fun k => schema_Show.l0.eq_2 ..) (Evn.pos hlt (Evn.pos (Int.natCast_nonneg _) (Evn.pos hlt ?_)))
          rw [hrd, w1p pre x (by omega)]
          exact Evn.bc (line_q x (hs x (by rw [e]; simp))) (Evn.pos (by rw [List.length_map]; omega) this)
      exact key l [] rfl
  · rw [if_neg h]
    exact Evn.neg h (Evn.ret _)
theorem ordB_all {α : Type} (P : α → Bool) (R : α → α → Bool) : ∀ (l : List α) (o : Option α), ordB P R o l = true → ∀ x ∈ l, P x = true
  | [], _, _, x, hx => by cases hx
  | y :: l, none, h, x, hx => by
    have h : (P y && ordB P R (some y) l) = true := h
    rw [Bool.and_eq_true] at h
    rcases List.mem_cons.1 hx with rfl | hx
    · exact h.1
    · exact ordB_all P R l (some y) h.2 x hx
  | y :: l, some z, h, x, hx => by
    have h : (P y && (R z y && ordB P R (some y) l)) = true := h
    rw [Bool.and_eq_true, Bool.and_eq_true] at h
    rcases List.mem_cons.1 hx with rfl | hx
    · exact h.1
    · exact ordB_all P R l (some y) h.2.2 x hx
theorem checkF_all (l : List Fld) (h : checkF l = true) : (∀ x ∈ l, simpleB x.f0 = true ∧ 1 ≤ x.f1 ∧ x.f1 ≤ 4) ∧ l.length ≤ 24 := by
  unfold checkF at h
  rw [Bool.and_eq_true, decide_eq_true_eq] at h
  refine ⟨fun x hx => ?_, h.2⟩
  have h1 := ordB_all _ _ l none h.1 x hx
  unfold fieldX fieldB at h1
  rw [Bool.and_eq_true, Bool.and_eq_true, decide_eq_true_eq, decide_eq_true_eq] at h1
  exact h1
theorem showL_snoc (pre : List Fld) (x : Fld) (h : pre ≠ []) : showL (pre ++ [x]) = (showL pre ++ [44, 32]) ++ lineL x := by
  cases pre with
  | nil => exact absurd rfl h
  | cons y ys =>
    unfold showL
    rw [List.cons_append, List.map_cons, List.map_cons, Lib.join_cons, Lib.join_cons, List.map_append]
    unfold Lib.joinTail
    rw [List.map_append, List.flatten_append]
    simp
theorem show_r (l : List Fld) (hs : ∀ x ∈ l, x.f0.size < 20000) (hl : l.length < 100000) : Evn (fun k => caduceusref04_Show.f k (l.map toR)) (showB l) := by
  unfold showB
  refine Evn.bind (check_r l hs hl) ?_
  by_cases h : checkF l = true
  · rw [if_pos h]
    obtain ⟨hall, h24⟩ := checkF_all l h
    refine Evn.pos h ?_
    by_cases h0 : l.length = 0
    · rw [if_pos h0]
      exact Evn.pos (by rw [List.length_map]; omega) (Evn.ret _)
    · rw [if_neg h0]
      refine Evn.neg (by rw [List.length_map]; omega) ?_
      have key : ∀ (post pre : List Fld), l = pre ++ post → Evn (fun k => caduceusref04_Show.l0 k (l.map toR) (bl (showL pre)) (pre.length : Int)) (bl (showL l)) := by
        intro post
        induction post with
        | nil =>
          intro pre e
          rw [List.append_nil] at e
          subst e
          exact Evn.step (fun k => caduceusref04_Show.l0.eq_2 ..) (Evn.neg (by rw [List.length_map]; omega) (Evn.ret _))
        | cons x post ih =>
          intro pre e
          have hlt : (pre.length : Int) < ((l.map toR).length : Int) := by rw [List.length_map, e]; exact ltp pre x post
          have hrd : rd_T72 (l.map toR) (pre.length : Int) = toR x := by rw [e]; exact getDm toR pre x post _
          have hx : x ∈ l := by rw [e]; simp
          obtain ⟨_, k1, k4⟩ := hall x hx
          have hsx := hs x hx
          have hwl := word_len x.f1
          have hjl := joins_len pre (fun y hy => hs y (by rw [e]; simp [hy]))
          have hpl : pre.length ≤ 24 := by rw [List.length_map] at hlt; omega
          have := ih (pre ++ [x]) (by rw [e, List.append_assoc]; rfl)
          have hz : x.f0.data.toList.length < 20000 := by rw [← size_len]; exact hsx
          refine Evn.step (fun k => caduceusref04_Show.l0.eq_2 ..) (Evn.pos hlt ?_)
          rw [hrd, w1p pre x (by omega)]
          show Evn (fun k => if (pre.length : Int) > 0 then (if (bl (showL pre)).size + 2 ≤ 9223372036854775807 then (if 0 ≤ (pre.length : Int) then (if (bl (showL pre) ++ bl [44, 32]).size + x.f0.size ≤ 9223372036854775807 then (if ((bl (showL pre) ++ bl [44, 32]) ++ x.f0).size + 1 ≤ 9223372036854775807 then ((caduceusref04_word.f x.f1).bind fun t => (if (((bl (showL pre) ++ bl [44, 32]) ++ x.f0) ++ bl [32]).size + t.size ≤ 9223372036854775807 then (if x.f2 = true then (if ((((bl (showL pre) ++ bl [44, 32]) ++ x.f0) ++ bl [32]) ++ t).size + 1 ≤ 9223372036854775807 then (caduceusref04_Show.l0 k (l.map toR) (((((bl (showL pre) ++ bl [44, 32]) ++ x.f0) ++ bl [32]) ++ t) ++ bl [33]) ((pre ++ [x]).length : Int)) else none) else (caduceusref04_Show.l0 k (l.map toR) ((((bl (showL pre) ++ bl [44, 32]) ++ x.f0) ++ bl [32]) ++ t) ((pre ++ [x]).length : Int))) else none)) else none) else none) else none) else none) else _) _
          rw [bl_app, bl_appl, bl_app]
          by_cases hp : pre = []
          · subst hp
            refine Evn.neg (by decide) (Evn.pos (by decide) ?_)
            show Evn (fun k => if (bl []).size + x.f0.size ≤ 9223372036854775807 then (if (bl [] ++ x.f0).size + 1 ≤ 9223372036854775807 then ((caduceusref04_word.f x.f1).bind fun t => (if ((bl [] ++ x.f0) ++ bl [32]).size + t.size ≤ 9223372036854775807 then (if x.f2 = true then (if (((bl [] ++ x.f0) ++ bl [32]) ++ t).size + 1 ≤ 9223372036854775807 then (caduceusref04_Show.l0 k (l.map toR) ((((bl [] ++ x.f0) ++ bl [32]) ++ t) ++ bl [33]) (([] ++ [x]).length : Int)) else none) else (caduceusref04_Show.l0 k (l.map toR) (((bl [] ++ x.f0) ++ bl [32]) ++ t) (([] ++ [x]).length : Int))) else none)) else none) else none) _
            rw [bl_appl, bl_app, List.nil_append]
            have e1 : showL ([] ++ [x]) = lineL x := by show Lib.join [lineL x] [44, 32] = _; exact Lib.join_one _ _
            rw [e1] at this
            unfold lineL at this
            refine Evn.pos (by rw [bl_size]; simp only [List.length_nil]; omega) (Evn.pos (by rw [bl_size]; omega) (Evn.bc (word_r x.f1 k1 k4) ?_))
            rw [bl_app, bl_app]
            refine Evn.pos (by rw [bl_size, bl_size, List.length_append]; simp only [List.length_cons, List.length_nil]; omega) ?_
            by_cases hm : x.f2 = true
            · rw [if_pos hm] at this
              exact Evn.pos hm (Evn.pos (by rw [bl_size, List.length_append, List.length_append]; simp only [List.length_cons, List.length_nil]; omega) this)
            · rw [if_neg hm, List.append_nil] at this
              exact Evn.neg hm this
          · have hpos : 0 < pre.length := by
              cases pre with
              | nil => exact absurd rfl hp
              | cons a b => exact Nat.succ_pos _
            rw [showL_snoc pre x hp] at this
            unfold lineL at this
            rw [← List.append_assoc, ← List.append_assoc, ← List.append_assoc] at this
            refine Evn.pos (by omega) (Evn.pos (by rw [bl_size]; omega) (Evn.pos (by omega) (Evn.pos (by rw [bl_size, List.length_append]; simp only [List.length_cons, List.length_nil]; omega) (Evn.pos (by rw [bl_size, List.length_append, List.length_append]; simp only [List.length_cons, List.length_nil]; omega) (Evn.bc (word_r x.f1 k1 k4) ?_)))))
            rw [bl_app, bl_app]
            refine Evn.pos (by rw [bl_size, bl_size, List.length_append, List.length_append, List.length_append]; simp only [List.length_cons, List.length_nil]; omega) ?_
            by_cases hm : x.f2 = true
            · rw [if_pos hm] at this
              exact Evn.pos hm (Evn.pos (by rw [bl_size, List.length_append, List.length_append, List.length_append, List.length_append]; simp only [List.length_cons, List.length_nil]; omega) this)
            · rw [if_neg hm, List.append_nil] at this
              exact Evn.neg hm this
      exact key l [] rfl
  · rw [if_neg h]
    exact Evn.neg h (Evn.ret _)
end Go.Proofs.YtnbbajiabbmdmaaGreatDoor.U8
namespace Go.Proofs.YtnbbajiabbmdmaaGreatDoor.U8
open Go.RowKit Go.Proofs.YtnbbajiabbmdmaaGreatDoor.A Go.Proofs.YtnbbajiabbmdmaaGreatDoorW.PrintWords Go.Proofs.YtnbbajiabbmdmaaGreatDoorW.PrintLast Go.Lib
set_option linter.unusedVariables false
set_option linter.unusedSimpArgs false
/-- Which kind a word says. -/
def kindFrom (w : List UInt8) : Nat → Nat → Int
  | _, 0 => 0
  | i, m + 1 => if w ≠ [] ∧ wordL (i : Int) = w then (i : Int) else kindFrom w (i + 1) m
def kindL (w : List UInt8) : Int := kindFrom w 0 5
/-- A field off its words. -/
def nameT (t : List UInt8) : List UInt8 := t.takeWhile (· != 32)
def restT (t : List UInt8) : List UInt8 := (t.dropWhile (· != 32)).drop 1
def mustT (w : List UInt8) : Bool := w.getLast? == some 33
def kindT (w : List UInt8) : List UInt8 := if mustT w = true then w.dropLast else w
def fieldT (t : List UInt8) : Fld := ⟨bl (nameT t), kindL (kindT (restT t)), mustT (restT t)⟩
theorem kind_l0 (w : List UInt8) : ∀ (m i : Nat), i + m = 5 → Evn (fun k => schema_kind.l0 k (bl w) (i : Int)) (kindFrom w i m)
  | 0, i, h => Evn.step (fun k => schema_kind.l0.eq_2 ..) (Evn.neg (by omega) (Evn.ret _))
  | m + 1, i, h => by
    have ih := kind_l0 w m (i + 1) (by omega)
    have hw : wrap64 ((i : Int) + 1) = ((i + 1 : Nat) : Int) := by unfold wrap64; omega
    refine Evn.step (fun k => schema_kind.l0.eq_2 ..) (Evn.pos (by omega) ?_)
    rw [hw, kindFrom, bl_toList]
    by_cases h0 : w = []
    · rw [if_neg (fun h => h.1 h0)]
      exact Evn.pos h0 ih
    · refine Evn.neg h0 (Evn.bc (word_q _) ?_)
      rw [bl_toList]
      by_cases h1 : wordL (i : Int) = w
      · rw [if_pos ⟨h0, h1⟩]
        exact Evn.pos h1 (Evn.ret _)
      · rw [if_neg (fun h => h1 h.2)]
        exact Evn.neg h1 ih
theorem kind_q (w : List UInt8) : Evn (fun k => schema_kind.f k (bl w)) (kindL w) := kind_l0 w 5 0 rfl
theorem kind_word (n : Int) (h1 : 1 ≤ n) (h4 : n ≤ 4) : kindL (wordL n) = n := by
  have : n = 1 ∨ n = 2 ∨ n = 3 ∨ n = 4 := by omega
  rcases this with rfl | rfl | rfl | rfl <;> decide
theorem index32 : ∀ t : List UInt8, Lib.index t [32] = if 32 ∈ t then ((nameT t).length : Int) else -1
  | [] => rfl
  | c :: t => by
    have ih := index32 t
    rw [Lib.index]
    by_cases h : c = 32
    · subst h
      rw [if_pos (by simp), if_pos List.mem_cons_self]
      rfl
    · have hb : (List.isPrefixOf [32] (c :: t)) = false := by
        simp only [List.isPrefixOf, Bool.and_eq_false_iff, beq_eq_false_iff_ne]
        exact .inl (fun e => h e.symm)
      have hn : nameT (c :: t) = c :: nameT t := by
        unfold nameT
        rw [List.takeWhile_cons, if_pos (by rw [bne_iff_ne]; exact h)]
      rw [hb, hn, if_neg (by decide), ih]
      by_cases hm : 32 ∈ t
      · rw [if_pos hm, if_pos (List.mem_cons_of_mem _ hm), if_neg (by rw [beq_iff_eq]; omega), List.length_cons]; omega
      · have hm2 : ¬ 32 ∈ c :: t := fun hh => by
          rcases List.mem_cons.1 hh with hh | hh
          · exact h hh.symm
          · exact hm hh
        rw [if_neg hm, if_neg hm2, if_pos (by decide)]
theorem name_split : ∀ t : List UInt8, 32 ∈ t → t.take (nameT t).length = nameT t ∧ t.drop ((nameT t).length + 1) = restT t
  | [], h => by cases h
  | c :: t, h => by
    unfold nameT restT
    by_cases hc : c = 32
    · subst hc
      rw [List.takeWhile_cons, if_neg (by decide), List.dropWhile_cons, if_neg (by decide)]
      exact ⟨rfl, rfl⟩
    · have hm : 32 ∈ t := by
        rcases List.mem_cons.1 h with h | h
        · exact absurd h.symm hc
        · exact h
      obtain ⟨h1, h2⟩ := name_split t hm
      unfold nameT at h1 h2
      unfold restT at h2
      rw [List.takeWhile_cons, if_pos (by rw [bne_iff_ne]; exact hc), List.dropWhile_cons, if_pos (by rw [bne_iff_ne]; exact hc), List.length_cons]
      exact ⟨by rw [List.take_succ_cons, h1], by rw [List.drop_succ_cons]; exact h2⟩
theorem name_none : ∀ t : List UInt8, 32 ∉ t → nameT t = t ∧ restT t = []
  | [], h => ⟨rfl, rfl⟩
  | c :: t, h => by
    have hc : ¬ c = 32 := fun e => h (by rw [e]; exact List.mem_cons_self)
    obtain ⟨h1, h2⟩ := name_none t (fun e => h (List.mem_cons_of_mem _ e))
    unfold nameT at h1 ⊢
    unfold restT at h2 ⊢
    rw [List.takeWhile_cons, if_pos (by rw [bne_iff_ne]; exact hc), List.dropWhile_cons, if_pos (by rw [bne_iff_ne]; exact hc), h1]
    exact ⟨rfl, h2⟩
theorem cut_spec (t : List UInt8) : (Lib.cut t [32]).1 = nameT t ∧ (Lib.cut t [32]).2.1 = restT t := by
  unfold Lib.cut
  rw [index32]
  by_cases h : 32 ∈ t
  · obtain ⟨h1, h2⟩ := name_split t h
    rw [if_pos h, if_pos (by omega), Int.toNat_natCast]
    exact ⟨h1, h2⟩
  · obtain ⟨h1, h2⟩ := name_none t h
    rw [if_neg h, if_neg (by decide)]
    exact ⟨h1.symm, h2.symm⟩
theorem cut_space (t : List UInt8) (h : t.length < 1000000) : ∃ b, strings_Cut.f (bl t) (bl [32]) = some (bl (nameT t), bl (restT t), b) := by
  obtain ⟨h1, h2⟩ := cut_spec t
  refine ⟨(Lib.cut t [32]).2.2, ?_⟩
  unfold strings_Cut.f
  rw [if_pos (by rw [bl_size]; omega)]
  show some (bl (Lib.cut t [32]).1, bl (Lib.cut t [32]).2.1, (Lib.cut t [32]).2.2) = _
  rw [h1, h2]
theorem rest_len (t : List UInt8) : (nameT t).length ≤ t.length ∧ (restT t).length ≤ t.length := by
  by_cases h : 32 ∈ t
  · obtain ⟨h1, h2⟩ := name_split t h
    rw [← h2, List.length_drop]
    have := congrArg List.length h1
    rw [List.length_take] at this
    exact ⟨by omega, by omega⟩
  · obtain ⟨h1, h2⟩ := name_none t h
    rw [h1, h2]
    exact ⟨Nat.le_refl _, Nat.zero_le _⟩
theorem must_snoc (q : List UInt8) (c : UInt8) : mustT (q ++ [c]) = decide (c = 33) := by
  unfold mustT
  rw [List.getLast?_append, List.getLast?_singleton]
  show (some c == some 33) = _
  by_cases h : c = 33
  · subst h; decide
  · rw [decide_eq_false h]
    exact beq_eq_false_iff_ne.2 (fun e => h (Option.some.inj e))
theorem suffix_q (w : List UInt8) (h : w.length < 1000000) : strings_CutSuffix.f (bl w) (bl [33]) = some (bl (kindT w), mustT w) := by
  unfold strings_CutSuffix.f stringslite_CutSuffix.f stringslite_HasSuffix.f
  rcases snoc_cases w with rfl | ⟨q, c, rfl⟩
  · rfl
  · have e0 : (q ++ [c]).length = q.length + 1 := snocLen q c
    have hw : wrap64 (((bl (q ++ [c])).size : Int) - ((bl [33]).size : Int)) = (q.length : Int) := by
      rw [bl_size, bl_size, e0]; show wrap64 (((q.length + 1 : Nat) : Int) - 1) = _; unfold wrap64; omega
    rw [hw, if_pos (by rw [bl_size, bl_size, e0]; show ((q.length + 1 : Nat) : Int) ≥ 1; omega), if_pos (Int.natCast_nonneg _), if_pos (by rw [bl_size, e0]; omega), Int.toNat_natCast, bl_size, bl_sub, bl_toList, bl_toList]
    have e1 : List.take ((q ++ [c]).length - q.length) (List.drop q.length (q ++ [c])) = [c] := by
      rw [List.drop_left, e0, show q.length + 1 - q.length = 1 by omega]; rfl
    have e2 : List.take q.length (List.drop 0 (q ++ [c])) = q := by rw [List.drop_zero, List.take_left]
    unfold kindT
    rw [e1, must_snoc, Option.bind_some]
    by_cases hc : c = 33
    · subst hc
      rw [if_pos (by decide), if_pos (Int.natCast_nonneg _), if_pos (by rw [e0]; omega), Option.bind_some, if_pos (by decide), bl_sub, Nat.sub_zero, e2, List.dropLast_concat]
      rfl
    · rw [if_neg (by rw [beq_iff_eq]; intro e; exact hc (List.cons.inj e).1), Option.bind_some, decide_eq_false hc, if_neg (by decide)]
def partsQ (s : ByteArray) : List ByteArray := Lib.splitB (bl [44, 32]) 0 (Lib.countB s (bl [44, 32])) s
def parseQ (s : ByteArray) : List Fld := (partsQ s).map (fun p => fieldT p.data.toList)
theorem splitK_len (sep : List UInt8) : ∀ (k : Nat) (s : List UInt8), ∀ p ∈ Lib.splitK sep 0 k s, p.length ≤ s.length
  | 0, s, p, hp => by
    rw [Lib.splitK] at hp
    rw [List.mem_singleton.1 hp]; exact Nat.le_refl _
  | k + 1, s, p, hp => by
    rw [Lib.splitK] at hp
    split at hp
    · rw [List.mem_singleton.1 hp]; exact Nat.le_refl _
    · rcases List.mem_cons.1 hp with rfl | hp
      · rw [List.length_take]; omega
      · have := splitK_len sep k _ p hp
        rw [List.length_drop] at this; omega
theorem partsQ_len (s : ByteArray) : (∀ p ∈ partsQ s, p.size ≤ s.size) ∧ (partsQ s).length ≤ s.size + 1 ∧ partsQ s ≠ [] := by
  refine ⟨fun p hp => ?_, ?_, ?_⟩
  · have h := Lib.splitB_data (bl [44, 32]) 0 (Lib.countB s (bl [44, 32])) s
    have hm : p.data.toList ∈ (partsQ s).map (·.data.toList) := List.mem_map.2 ⟨p, hp, rfl⟩
    unfold partsQ at hm
    rw [h] at hm
    have := splitK_len _ _ _ _ hm
    rw [← size_len, ← size_len] at this; exact this
  · have h1 := Lib.splitB_length_le (bl [44, 32]) 0 (Lib.countB s (bl [44, 32])) s
    have h2 := Lib.countB_le (bl [44, 32]) (by decide) s.size s (Nat.le_refl _)
    unfold partsQ; omega
  · unfold partsQ
    cases Lib.countB s (bl [44, 32]) with
    | zero => exact List.cons_ne_nil _ _
    | succ k =>
      rw [Lib.splitB]
      split
      · exact List.cons_ne_nil _ _
      · exact List.cons_ne_nil _ _
def resQ (s : ByteArray) (l : List Fld) : List Fld × Int := if (showB l).toList = s.toList then (if s.toList = [] then ([], 3) else (l, 0)) else ([], 3)
theorem field_size (t : List UInt8) : (fieldT t).f0.size ≤ t.length := (rest_len t).1
theorem parse_q (s : ByteArray) (hs : s.size < 15000) : Evn (fun k => schema_Parse.f k s) (if s.toList = [45] then ([], 0) else resQ s (parseQ s)) := by
  by_cases h : s.toList = [45]
  · rw [if_pos h]
    exact Evn.pos h (Evn.ret _)
  · rw [if_neg h]
    obtain ⟨hp1, hp2, hp3⟩ := partsQ_len s
    refine Evn.neg h (Evn.bc (u := partsQ s) ?_ ?_)
    · unfold strings_Split.f
      rw [if_pos (by omega), if_pos (by decide)]; rfl
    · have key : ∀ (post pre : List ByteArray), partsQ s = pre ++ post → Evn (fun k => schema_Parse.l0 k s (pre.map (fun p => fieldT p.data.toList)) (partsQ s) ((partsQ s).length : Int) (pre.length : Int)) (resQ s (parseQ s)) := by
        intro post
        induction post with
        | nil =>
          intro pre e
          rw [List.append_nil] at e
          have e' : pre.map (fun p => fieldT p.data.toList) = parseQ s := by unfold parseQ; rw [e]
          have hsz : ∀ x ∈ parseQ s, x.f0.size < 20000 := by
            intro x hx
            obtain ⟨p, hp, rfl⟩ := List.mem_map.1 hx
            have h1 := field_size p.data.toList
            have h2 := hp1 p hp
            rw [← size_len] at h1; omega
          have hlen : (parseQ s).length < 100000 := by unfold parseQ; rw [List.length_map]; omega
          rw [e']
          refine Evn.step (fun k => schema_Parse.l0.eq_2 ..) (Evn.neg (by rw [e]; omega) (Evn.bind (show_q _ hsz hlen) ?_))
          unfold resQ
          by_cases h1 : (showB (parseQ s)).toList = s.toList
          · by_cases h2 : s.toList = []
            · exact Evn.val (by rw [if_pos h1, if_pos h2]) (Evn.pos h1 (Evn.pos h2 (Evn.ret _)))
            · exact Evn.val (by rw [if_pos h1, if_neg h2]) (Evn.pos h1 (Evn.neg h2 (Evn.ret _)))
          · exact Evn.val (by rw [if_neg h1]) (Evn.neg h1 (Evn.ret _))
        | cons x post ih =>
          intro pre e
          have hlt : (pre.length : Int) < ((partsQ s).length : Int) := by rw [e]; exact ltp pre x post
          have hrd : rdOf ByteArray.empty (partsQ s) (pre.length : Int) = x := by rw [e]; exact getDp pre x post _
          have hx := hp1 x (by rw [e]; simp)
          have hxl : x.data.toList.length < 1000000 := by rw [← size_len]; omega
          obtain ⟨h1, h2⟩ := rest_len x.data.toList
          have := ih (pre ++ [x]) (by rw [e, List.append_assoc]; rfl)
          rw [List.map_append] at this
          refine Evn.step (fun k => schema_Parse.l0.eq_2 ..) (Evn.pos hlt (Evn.pos (Int.natCast_nonneg _) (Evn.pos hlt ?_)))
          obtain ⟨b, hb⟩ := cut_space x.data.toList hxl
          rw [bl_eta] at hb
          rw [hrd, w1p pre x (by omega)]
          exact Evn.bc hb (Evn.bc (suffix_q (restT x.data.toList) (by omega)) (Evn.bind (kind_q _) (Evn.pos (by rw [List.length_map]; omega) this)))
      exact key (partsQ s) [] rfl
end Go.Proofs.YtnbbajiabbmdmaaGreatDoor.U8
namespace Go.Proofs.YtnbbajiabbmdmaaGreatDoor.U8
open Go.RowKit Go.Proofs.YtnbbajiabbmdmaaGreatDoor.A Go.Proofs.YtnbbajiabbmdmaaGreatDoorW.PrintWords Go.Proofs.YtnbbajiabbmdmaaGreatDoorW.PrintLast Go.Lib
set_option linter.unusedVariables false
set_option linter.unusedSimpArgs false
/-- A line cut at commas; a blank behind a comma is dropped. -/
def stripR (first : Bool) (cur : List UInt8) : List UInt8 := match first, cur with
  | false, 32 :: t => t
  | _, t => t
def partsR : Bool → List UInt8 → List UInt8 → List (List UInt8)
  | first, cur, [] => [stripR first cur]
  | first, cur, c :: cs => if c = 44 then stripR first cur :: partsR false [] cs else partsR first (cur ++ [c]) cs
theorem strip_nil (first : Bool) : stripR first [] = [] := by cases first <;> rfl
theorem strip_32 (t : List UInt8) : stripR false (32 :: t) = t := rfl
theorem strip_ne (first : Bool) (c : UInt8) (t : List UInt8) (h : c ≠ 32) : stripR first (c :: t) = c :: t := by
  unfold stripR
  split
  · rename_i e; exact absurd (List.cons.inj e).1 h
  · rfl
theorem strip_len (first : Bool) (t : List UInt8) : (stripR first t).length ≤ t.length := by
  unfold stripR
  split
  · rw [List.length_cons]; omega
  · exact Nat.le_refl _
section
variable {v : List FldR × Int}
theorem l2_r (s : ByteArray) (acc : List FldR) (i : Nat) (w : List UInt8) (nm : ByteArray) (m : Bool) (hi : i < 100000) (ha : acc.length < 100000)
    (h : Evn (fun k => caduceusref04_Parse.l0 k s (acc ++ [⟨nm, kindL w, m⟩]) ((i + 1 : Nat) : Int) ((i + 1 : Nat) : Int)) v) : Evn (fun k => caduceusref04_Parse.l2 k s acc (i : Int) (bl w) 1 nm 0 m) v := by
  have hw : wrap64 ((i : Int) + 1) = ((i + 1 : Nat) : Int) := by unfold wrap64; omega
  have fin : ∀ q : Int, q = kindL w → Evn (fun k => caduceusref04_Parse.l2 k s acc (i : Int) (bl w) 5 nm q m) v := by
    intro q e
    subst e
    refine Evn.step (fun k => caduceusref04_Parse.l2.eq_2 ..) (Evn.neg (by decide) (Evn.pos (by omega) ?_))
    rw [hw]
    exact h
  have st : ∀ (n n' : Int) (q : Int), wrap64 (n + 1) = n' → 1 ≤ n → n ≤ 4 → (wordL n = w → Evn (fun k => caduceusref04_Parse.l2 k s acc (i : Int) (bl w) n' nm n m) v) → (¬ wordL n = w → Evn (fun k => caduceusref04_Parse.l2 k s acc (i : Int) (bl w) n' nm q m) v) → Evn (fun k => caduceusref04_Parse.l2 k s acc (i : Int) (bl w) n nm q m) v := by
    intro n n' q hn' h1 h4 hp hn
    refine Evn.step (fun k => caduceusref04_Parse.l2.eq_2 ..) (Evn.pos h4 (Evn.bc (word_r n h1 h4) ?_))
    rw [bl_toList, bl_toList, hn']
    exact Evn.ite hp hn
  by_cases e1 : wordL 1 = w
  · subst e1
    refine st 1 2 0 (by decide +kernel) (by decide) (by decide) (fun _ => ?_) (fun hh => absurd rfl hh)
    refine st 2 3 1 (by decide +kernel) (by decide) (by decide) (fun hh => absurd hh (by decide)) (fun _ => ?_)
    refine st 3 4 1 (by decide +kernel) (by decide) (by decide) (fun hh => absurd hh (by decide)) (fun _ => ?_)
    refine st 4 5 1 (by decide +kernel) (by decide) (by decide) (fun hh => absurd hh (by decide)) (fun _ => ?_)
    exact fin 1 (by decide)
  refine st 1 2 0 (by decide +kernel) (by decide) (by decide) (fun hh => absurd hh e1) (fun _ => ?_)
  by_cases e2 : wordL 2 = w
  · subst e2
    refine st 2 3 0 (by decide +kernel) (by decide) (by decide) (fun _ => ?_) (fun hh => absurd rfl hh)
    refine st 3 4 2 (by decide +kernel) (by decide) (by decide) (fun hh => absurd hh (by decide)) (fun _ => ?_)
    refine st 4 5 2 (by decide +kernel) (by decide) (by decide) (fun hh => absurd hh (by decide)) (fun _ => ?_)
    exact fin 2 (by decide)
  refine st 2 3 0 (by decide +kernel) (by decide) (by decide) (fun hh => absurd hh e2) (fun _ => ?_)
  by_cases e3 : wordL 3 = w
  · subst e3
    refine st 3 4 0 (by decide +kernel) (by decide) (by decide) (fun _ => ?_) (fun hh => absurd rfl hh)
    refine st 4 5 3 (by decide +kernel) (by decide) (by decide) (fun hh => absurd hh (by decide)) (fun _ => ?_)
    exact fin 3 (by decide)
  refine st 3 4 0 (by decide +kernel) (by decide) (by decide) (fun hh => absurd hh e3) (fun _ => ?_)
  by_cases e4 : wordL 4 = w
  · subst e4
    refine st 4 5 0 (by decide +kernel) (by decide) (by decide) (fun _ => ?_) (fun hh => absurd rfl hh)
    exact fin 4 (by decide)
  refine st 4 5 0 (by decide +kernel) (by decide) (by decide) (fun hh => absurd hh e4) (fun _ => ?_)
  refine fin 0 ?_
  unfold kindL
  rw [kindFrom, kindFrom, kindFrom, kindFrom, kindFrom, kindFrom]
  rw [if_neg (fun hh => hh.1 (by rw [← hh.2]; rfl)), if_neg (fun hh => e1 hh.2), if_neg (fun hh => e2 hh.2), if_neg (fun hh => e3 hh.2), if_neg (fun hh => e4 hh.2)]
theorem j6_r (s : ByteArray) (acc : List FldR) (i : Nat) (w : List UInt8) (nm : ByteArray) (hi : i < 100000) (ha : acc.length < 100000) (hw : w.length < 100000)
    (h : Evn (fun k => caduceusref04_Parse.l0 k s (acc ++ [⟨nm, kindL (kindT w), mustT w⟩]) ((i + 1 : Nat) : Int) ((i + 1 : Nat) : Int)) v) : Evn (fun k => caduceusref04_Parse.j6 k s acc (i : Int) (bl w) nm 0 false) v := by
  rcases snoc_cases w with rfl | ⟨q, c, rfl⟩
  · refine Evn.step (fun k => caduceusref04_Parse.j6.eq_2 ..) (Evn.neg (by decide) (Evn.step (fun k => caduceusref04_Parse.j7.eq_2 ..) (Evn.neg (by decide) (Evn.step (fun k => caduceusref04_Parse.j8.eq_2 ..) ?_))))
    exact l2_r s acc i [] nm false hi ha h
  · have e0 : (q ++ [c]).length = q.length + 1 := snocLen q c
    have hz : wrap64 (((bl (q ++ [c])).size : Int) - 1) = (q.length : Int) := by rw [bl_size, e0]; unfold wrap64; omega
    have hb : bt (bl (q ++ [c])) (q.length : Int) = (c.toNat : Int) := bl_bt q c []
    have hm := must_snoc q c
    unfold kindT at h
    rw [hm] at h
    refine Evn.step (fun k => caduceusref04_Parse.j6.eq_2 ..) (Evn.pos (by rw [bl_size, e0]; omega) ?_)
    rw [hz, hb]
    refine Evn.pos (Int.natCast_nonneg _) (Evn.pos (by rw [bl_size, e0]; omega) (Evn.step (fun k => caduceusref04_Parse.j7.eq_2 ..) ?_))
    rw [hz]
    by_cases hc : c = 33
    · subst hc
      rw [decide_eq_true (rfl : (33 : UInt8) = 33), if_pos rfl, List.dropLast_concat] at h
      refine Evn.pos (by decide) (Evn.pos (Int.natCast_nonneg _) (Evn.pos (by rw [bl_size, e0]; omega) (Evn.step (fun k => caduceusref04_Parse.j8.eq_2 ..) ?_)))
      rw [Int.toNat_natCast, bl_sub, Nat.sub_zero, List.drop_zero, List.take_left]
      exact l2_r s acc i q nm true hi ha h
    · have hc2 : ((c.toNat : Int) == 33) = false := by
        refine beq_eq_false_iff_ne.2 (fun e => hc ?_)
        have : c.toNat = (33 : UInt8).toNat := by show c.toNat = 33; omega
        exact UInt8.toNat_inj.1 this
      rw [decide_eq_false hc, if_neg (by decide)] at h
      rw [hc2]
      refine Evn.neg (by decide) (Evn.step (fun k => caduceusref04_Parse.j8.eq_2 ..) ?_)
      exact l2_r s acc i (q ++ [c]) nm false hi ha h
theorem j5_r (s : ByteArray) (acc : List FldR) (i : Nat) (t : List UInt8) (hi : i < 100000) (ha : acc.length < 100000) (ht : t.length < 100000)
    (h : Evn (fun k => caduceusref04_Parse.l0 k s (acc ++ [toR (fieldT t)]) ((i + 1 : Nat) : Int) ((i + 1 : Nat) : Int)) v) : Evn (fun k => caduceusref04_Parse.j5 k s acc (i : Int) (bl t) ((nameT t).length : Int) ⟨#[]⟩ 0 false) v := by
  obtain ⟨h1, h2⟩ := rest_len t
  have hw : wrap64 (((nameT t).length : Int) + 1) = (((nameT t).length + 1 : Nat) : Int) := by unfold wrap64; omega
  have goal := j6_r s acc i (restT t) (bl (nameT t)) hi ha (by omega) h
  refine Evn.step (fun k => caduceusref04_Parse.j5.eq_2 ..) (Evn.pos (Int.natCast_nonneg _) (Evn.pos (by rw [bl_size]; omega) ?_))
  rw [hw, Int.toNat_natCast, Int.toNat_natCast, bl_sub, bl_sub, List.drop_zero, Nat.sub_zero, bl_size]
  by_cases hm : 32 ∈ t
  · obtain ⟨k1, k2⟩ := name_split t hm
    have hlt : (nameT t).length < t.length := by
      have := congrArg List.length k2
      by_cases hh : (nameT t).length < t.length
      · exact hh
      · have h5 : (nameT t).length = t.length := by omega
        have h6 : t.take t.length = nameT t := by rw [← h5]; exact k1
        rw [List.take_length] at h6
        exfalso
        have h7 : 32 ∈ nameT t := h6 ▸ hm
        unfold nameT at h7
        have := List.all_eq_true.1 (List.all_takeWhile (l := t) (p := (· != 32))) 32 h7
        exact absurd this (by decide)
    rw [k1, k2, show List.take (t.length - ((nameT t).length + 1)) (restT t) = restT t from List.take_of_length_le (by rw [← k2, List.length_drop]; exact Nat.le_refl _)]
    exact Evn.pos (by omega) (Evn.pos (by omega) (Evn.pos (by omega) goal))
  · obtain ⟨k1, k2⟩ := name_none t hm
    rw [k1, List.take_length]
    rw [k1, k2] at goal
    exact Evn.neg (by omega) goal
theorem l1_r (s : ByteArray) (acc : List FldR) (i : Nat) (t : List UInt8) (ht : t.length < 100000) (h : Evn (fun k => caduceusref04_Parse.j5 k s acc (i : Int) (bl t) ((nameT t).length : Int) ⟨#[]⟩ 0 false) v) :
    ∀ (post pre : List UInt8), t = pre ++ post → 32 ∉ pre → Evn (fun k => caduceusref04_Parse.l1 k s acc (i : Int) (bl t) (pre.length : Int) ⟨#[]⟩ 0 false) v
  | [], pre, e, hp => by
    rw [List.append_nil] at e
    subst e
    rw [(name_none t hp).1] at h
    exact Evn.step (fun k => caduceusref04_Parse.l1.eq_2 ..) (Evn.neg (by rw [bl_size]; omega) h)
  | c :: post, pre, e, hp => by
    have hb : bt (bl t) (pre.length : Int) = (c.toNat : Int) := by rw [e]; exact bl_bt pre c post
    refine Evn.step (fun k => caduceusref04_Parse.l1.eq_2 ..) (Evn.pos (by rw [bl_size, e]; exact ltp pre c post) (Evn.pos (Int.natCast_nonneg _) ?_))
    rw [hb]
    by_cases hc : c = 32
    · subst hc
      have hn : nameT t = pre := by
        rw [e]; unfold nameT
        rw [List.takeWhile_append_of_pos (fun a ha => by rw [bne_iff_ne]; exact fun hh => hp (hh ▸ ha)), List.takeWhile_cons, if_neg (by decide), List.append_nil]
      rw [hn] at h
      exact Evn.pos (by decide) h
    · have hc2 : ¬ (c.toNat : Int) = 32 := fun e => hc (by
        have : c.toNat = (32 : UInt8).toNat := by show c.toNat = 32; omega
        exact UInt8.toNat_inj.1 this)
      have ih := l1_r s acc i t ht h post (pre ++ [c]) (by rw [e, List.append_assoc]; rfl) (fun hh => by
        rcases List.mem_append.1 hh with hh | hh
        · exact hp hh
        · exact hc (List.mem_singleton.1 hh).symm)
      have hl : pre.length < 100000 := by rw [e, List.length_append] at ht; omega
      rw [w1p pre c (by omega)]
      exact Evn.neg hc2 ih
theorem piece_r (before cur rest : List UInt8) (acc : List FldR) (hl : (before ++ cur ++ rest).length < 90000) (ha : acc.length < 100000)
    (h : Evn (fun k => caduceusref04_Parse.l0 k (bl (before ++ cur ++ rest)) (acc ++ [toR (fieldT (stripR (decide (before.length = 0)) cur))]) (((before ++ cur).length + 1 : Nat) : Int) (((before ++ cur).length + 1 : Nat) : Int)) v) :
    Evn (fun k => caduceusref04_Parse.j1 k (bl (before ++ cur ++ rest)) acc (before.length : Int) ((before ++ cur).length : Int) false) v := by
  have hl2 : before.length + cur.length + rest.length < 90000 := by rw [List.length_append, List.length_append] at hl; exact hl
  have hbc : (before ++ cur).length = before.length + cur.length := List.length_append
  have ht : (bl (before ++ cur ++ rest)).extract before.length (before ++ cur).length = bl cur := by
    rw [bl_sub, List.append_assoc, List.drop_left, hbc, Nat.add_sub_cancel_left, List.take_left]
  have hsl := strip_len (decide (before.length = 0)) cur
  have goal : Evn (fun k => caduceusref04_Parse.j3 k (bl (before ++ cur ++ rest)) acc ((before ++ cur).length : Int) (bl (stripR (decide (before.length = 0)) cur))) v := by
    refine Evn.step (fun k => caduceusref04_Parse.j3.eq_2 ..) ?_
    exact l1_r _ acc _ _ (by omega) (j5_r _ acc _ _ (by omega) ha (by omega) h) (stripR (decide (before.length = 0)) cur) [] rfl (fun hh => by cases hh)
  have j2f : stripR (decide (before.length = 0)) cur = cur → Evn (fun k => caduceusref04_Parse.j2 k (bl (before ++ cur ++ rest)) acc ((before ++ cur).length : Int) (bl cur) false) v := fun e => by
    rw [e] at goal
    exact Evn.step (fun k => caduceusref04_Parse.j2.eq_2 ..) (Evn.neg (by decide) goal)
  refine Evn.step (fun k => caduceusref04_Parse.j1.eq_2 ..) (Evn.neg (by decide) (Evn.pos (Int.natCast_nonneg _) (Evn.pos (by omega) (Evn.pos (by rw [bl_size]; rw [List.length_append (bs := rest)]; omega) ?_))))
  rw [Int.toNat_natCast, Int.toNat_natCast, ht]
  cases cur with
  | nil => exact Evn.neg (by decide) (j2f (strip_nil _))
  | cons c t =>
    have hb : bt (bl (c :: t)) 0 = (c.toNat : Int) := bl_bt [] c t
    rw [hb]
    refine Evn.pos (by rw [bl_size, List.length_cons]; omega) (Evn.pos (by rw [bl_size, List.length_cons]; omega) ?_)
    by_cases hc : c = 32
    · subst hc
      refine Evn.pos (by decide) ?_
      by_cases h0 : before.length = 0
      · rw [decide_eq_false (by omega)]
        refine j2f ?_
        rw [decide_eq_true h0]; rfl
      · rw [decide_eq_true (show (before.length : Int) > 0 by omega)]
        rw [decide_eq_false h0, strip_32] at goal
        refine Evn.step (fun k => caduceusref04_Parse.j2.eq_2 ..) (Evn.pos rfl (Evn.pos (by rw [bl_size, List.length_cons]; omega) ?_))
        rw [bl_size, bl_sub, List.length_cons, Nat.add_sub_cancel, List.drop_succ_cons, List.drop_zero, List.take_length]
        exact goal
    · have hc2 : ¬ (c.toNat : Int) = 32 := fun e => hc (by
        have : c.toNat = (32 : UInt8).toNat := by show c.toNat = 32; omega
        exact UInt8.toNat_inj.1 this)
      exact Evn.neg hc2 (j2f (strip_ne _ c t hc))
end
def parseR (s : ByteArray) : List Fld := (partsR true [] s.data.toList).map fieldT
def resR (s : ByteArray) (l : List Fld) : List FldR × Int := if s.toList = [] then ([], 3) else if (showB l).toList = s.toList then (l.map toR, 0) else ([], 3)
theorem final_r (L : List UInt8) (l : List Fld) (f i : Nat) (hi : L.length < i) (hl : L.length < 15000) (hn : l.length < 100000) (hs : ∀ x ∈ l, x.f0.size < 20000) :
    Evn (fun k => caduceusref04_Parse.l0 k (bl L) (l.map toR) (f : Int) (i : Int)) (resR (bl L) l) := by
  unfold resR
  refine Evn.step (fun k => caduceusref04_Parse.l0.eq_2 ..) (Evn.neg (by rw [bl_size]; omega) ?_)
  by_cases h2 : (bl L).toList = []
  · exact Evn.val (by rw [if_pos h2]) (Evn.pos h2 (Evn.ret _))
  · refine Evn.val (by rw [if_neg h2]) (Evn.neg h2 (Evn.bind (show_r l hs hn) ?_))
    by_cases h1 : (showB l).toList = (bl L).toList
    · exact Evn.val (by rw [if_pos h1]) (Evn.pos h1 (Evn.ret _))
    · exact Evn.val (by rw [if_neg h1]) (Evn.neg h1 (Evn.ret _))
theorem parse_l0 (L : List UInt8) (hl : L.length < 15000) : ∀ (rest before cur : List UInt8) (acc : List Fld), L = before ++ cur ++ rest → acc.length ≤ before.length → (∀ x ∈ acc, x.f0.size < 20000) →
    Evn (fun k => caduceusref04_Parse.l0 k (bl L) (acc.map toR) (before.length : Int) ((before ++ cur).length : Int)) (resR (bl L) (acc ++ (partsR (decide (before.length = 0)) cur rest).map fieldT))
  | [], before, cur, acc, e, ha, hs => by
    have hlen : L.length = before.length + cur.length := by rw [e, List.append_nil, List.length_append]
    have hsl := strip_len (decide (before.length = 0)) cur
    have hbc : (before ++ cur).length = before.length + cur.length := List.length_append
    refine Evn.step (fun k => caduceusref04_Parse.l0.eq_2 ..) (Evn.pos (by rw [bl_size]; omega) (Evn.neg (by rw [bl_size]; omega) ?_))
    have hf := final_r L (acc ++ [fieldT (stripR (decide (before.length = 0)) cur)]) ((before ++ cur).length + 1) ((before ++ cur).length + 1) (by omega) hl (by rw [snocLen]; omega) (fun x hx => by
      rcases List.mem_append.1 hx with hx | hx
      · exact hs x hx
      · rw [List.mem_singleton.1 hx]
        have := field_size (stripR (decide (before.length = 0)) cur); omega)
    rw [List.map_append, e] at hf
    have := piece_r before cur [] (acc.map toR) (by rw [← e]; omega) (by rw [List.length_map]; omega) hf
    rw [← e] at this
    exact this
  | c :: cs, before, cur, acc, e, ha, hs => by
    have hlen : L.length = before.length + cur.length + (cs.length + 1) := by rw [e, List.length_append, List.length_append, List.length_cons]
    have hsl := strip_len (decide (before.length = 0)) cur
    have hbc : (before ++ cur).length = before.length + cur.length := List.length_append
    have hb : bt (bl L) ((before ++ cur).length : Int) = (c.toNat : Int) := by rw [e]; exact bl_bt _ c cs
    refine Evn.step (fun k => caduceusref04_Parse.l0.eq_2 ..) (Evn.pos (by rw [bl_size]; omega) (Evn.pos (by rw [bl_size]; omega) (Evn.pos (Int.natCast_nonneg _) ?_)))
    rw [hb, partsR]
    by_cases hc : c = 44
    · subst hc
      have ih := parse_l0 L hl cs (before ++ cur ++ [44]) [] (acc ++ [fieldT (stripR (decide (before.length = 0)) cur)]) (by rw [e, List.append_nil, List.append_assoc (before ++ cur)]; rfl) (by rw [snocLen, snocLen]; omega) (fun x hx => by
        rcases List.mem_append.1 hx with hx | hx
        · exact hs x hx
        · rw [List.mem_singleton.1 hx]
          have := field_size (stripR (decide (before.length = 0)) cur); omega)
      rw [List.append_nil, snocLen, decide_eq_false (Nat.succ_ne_zero _), List.map_append, List.append_assoc] at ih
      rw [if_pos rfl, show (((44 : UInt8).toNat : Int) != 44) = false by decide]
      have hp := piece_r before cur (44 :: cs) (acc.map toR) (by rw [← e]; omega) (by rw [List.length_map]; omega) (by rw [← e]; exact ih)
      rw [← e] at hp
      exact hp
    · have hc2 : ((c.toNat : Int) != 44) = true := by
        rw [bne_iff_ne]
        exact fun e => hc (by
          have : c.toNat = (44 : UInt8).toNat := by show c.toNat = 44; omega
          exact UInt8.toNat_inj.1 this)
      have ih := parse_l0 L hl cs before (cur ++ [c]) acc (by rw [e, ← List.append_assoc, List.append_assoc (before ++ cur) [c]]; rfl) ha hs
      rw [← List.append_assoc] at ih
      rw [if_neg hc, hc2]
      refine Evn.step (fun k => caduceusref04_Parse.j1.eq_2 ..) (Evn.pos rfl ?_)
      rw [w1p (before ++ cur) c (by omega)]
      exact ih
theorem parse_r (s : ByteArray) (hs : s.size < 15000) : Evn (fun k => caduceusref04_Parse.f k s) (if s.toList = [45] then ([], 0) else resR s (parseR s)) := by
  by_cases h : s.toList = [45]
  · rw [if_pos h]
    exact Evn.pos h (Evn.ret _)
  · rw [if_neg h]
    refine Evn.neg h ?_
    have := parse_l0 s.data.toList (by rw [← size_len]; exact hs) s.data.toList [] [] [] rfl (Nat.le_refl _) (fun x hx => by cases hx)
    rw [bl_eta] at this
    exact this
end Go.Proofs.YtnbbajiabbmdmaaGreatDoor.U8
namespace Go.Proofs.YtnbbajiabbmdmaaGreatDoor.U8
open Go.RowKit Go.Proofs.YtnbbajiabbmdmaaGreatDoor.A Go.Proofs.YtnbbajiabbmdmaaGreatDoorW.PrintWords Go.Proofs.YtnbbajiabbmdmaaGreatDoorW.PrintLast Go.Lib
set_option linter.unusedVariables false
set_option linter.unusedSimpArgs false
theorem form_in : ∀ (cs : List Nat) (first : Bool), formG first cs = true → ∀ c ∈ cs, c ≠ 32 ∧ c ≠ 44
  | [], first, h, c, hc => by cases hc
  | d :: ds, first, h, c, hc => by
    rw [formG] at h
    have key : (d ≠ 32 ∧ d ≠ 44) ∧ ∃ b, formG b ds = true := by
      by_cases h1 : d = 46
      · rw [if_pos h1] at h
        by_cases h2 : first = true
        · rw [if_pos h2] at h; cases h
        · rw [if_neg h2] at h
          exact ⟨by omega, _, h⟩
      · rw [if_neg h1] at h
        by_cases h2 : letB (d : Int) = true ∨ d = 95
        · rw [if_pos h2] at h
          refine ⟨⟨fun e => ?_, fun e => ?_⟩, _, h⟩
          · subst e
            rcases h2 with h2 | h2
            · exact absurd h2 (by decide)
            · omega
          · subst e
            rcases h2 with h2 | h2
            · exact absurd h2 (by decide)
            · omega
        · rw [if_neg h2] at h
          by_cases h3 : first = false ∧ ((48 ≤ d ∧ d ≤ 57) ∨ d = 45)
          · rw [if_pos h3] at h
            exact ⟨by omega, _, h⟩
          · rw [if_neg h3] at h; cases h
    obtain ⟨k1, b, k2⟩ := key
    rcases List.mem_cons.1 hc with rfl | hc
    · exact k1
    · exact form_in ds b k2 c hc
theorem encL_mem : ∀ (cs : List Nat) (b : UInt8), b ∈ encL cs → ∃ c ∈ cs, b ∈ encodeRune (c : Int)
  | [], b, h => by cases h
  | c :: cs, b, h => by
    rw [encL] at h
    rcases List.mem_append.1 h with h | h
    · exact ⟨c, List.mem_cons_self, h⟩
    · obtain ⟨d, hd, hb⟩ := encL_mem cs b h
      exact ⟨d, List.mem_cons_of_mem _ hd, hb⟩
theorem name_bytes (s : ByteArray) (h : simpleB s = true) : ∀ b ∈ s.data.toList, b ≠ 32 ∧ b ≠ 44 := by
  unfold simpleB at h
  rw [Bool.and_eq_true, decide_eq_true_eq] at h
  obtain ⟨h0, hv, hg⟩ := formed_valid s (check0 s h.1)
  obtain ⟨e1, o1⟩ := valid_runesL _ hv
  intro b hb
  rw [← e1] at hb
  obtain ⟨c, hc, hb⟩ := encL_mem _ _ hb
  obtain ⟨n1, n2⟩ := form_in _ _ hg c hc
  by_cases h128 : c < 128
  · unfold encodeRune at hb
    rw [encodeRuneZ_one (by omega) (by omega)] at hb
    have hb2 : b ∈ [((c : Int).toNat.toUInt8)] := hb
    rw [Int.toNat_natCast] at hb2
    rw [List.mem_singleton.1 hb2]
    refine ⟨fun e => n1 ?_, fun e => n2 ?_⟩
    · have := congrArg UInt8.toNat e
      rw [u8n c (by omega)] at this; exact this
    · have := congrArg UInt8.toNat e
      rw [u8n c (by omega)] at this; exact this
  · have := enc_high c (o1 c hc) (by omega) b hb
    refine ⟨fun e => ?_, fun e => ?_⟩
    · subst e; exact absurd this (by decide)
    · subst e; exact absurd this (by decide)
theorem word_mem (n : Int) : ∀ b ∈ wordL n, b ≠ 32 ∧ b ≠ 44 ∧ b ≠ 33 := by
  unfold wordL
  split
  · decide
  split
  · decide
  split
  · decide
  split
  · decide
  · intro b h; cases h
theorem line_44 (x : Fld) (h : simpleB x.f0 = true) : (44 : UInt8) ∉ lineL x := by
  unfold lineL
  intro hm
  rcases List.mem_append.1 hm with hm | hm
  · rcases List.mem_append.1 hm with hm | hm
    · rcases List.mem_append.1 hm with hm | hm
      · exact (name_bytes _ h _ hm).2 rfl
      · exact absurd (List.mem_singleton.1 hm) (by decide)
    · exact (word_mem _ _ hm).2.1 rfl
  · split at hm
    · exact absurd (List.mem_singleton.1 hm) (by decide)
    · cases hm
theorem takeWhile_32 : ∀ (a b : List UInt8), 32 ∉ a → (a ++ 32 :: b).takeWhile (· != 32) = a ∧ (a ++ 32 :: b).dropWhile (· != 32) = 32 :: b
  | [], b, h => ⟨rfl, rfl⟩
  | c :: a, b, h => by
    have hc : (c != 32) = true := by rw [bne_iff_ne]; exact fun e => h (e ▸ List.mem_cons_self)
    obtain ⟨h1, h2⟩ := takeWhile_32 a b (fun hh => h (List.mem_cons_of_mem _ hh))
    rw [List.cons_append, List.takeWhile_cons, if_pos hc, List.dropWhile_cons, if_pos hc, h1]
    exact ⟨rfl, h2⟩
theorem must_word (w : List UInt8) (h : (33 : UInt8) ∉ w) : mustT w = false := by
  rcases snoc_cases w with rfl | ⟨q, c, rfl⟩
  · rfl
  · rw [must_snoc, decide_eq_false]
    exact fun e => h (by rw [e]; simp)
theorem field_line (x : Fld) (h : simpleB x.f0 = true) (h1 : 1 ≤ x.f1) (h4 : x.f1 ≤ 4) : fieldT (lineL x) = x := by
  have e : lineL x = x.f0.data.toList ++ 32 :: (wordL x.f1 ++ (if x.f2 = true then [33] else [])) := by
    unfold lineL
    rw [List.append_assoc, List.append_assoc]; rfl
  obtain ⟨t1, t2⟩ := takeWhile_32 x.f0.data.toList (wordL x.f1 ++ (if x.f2 = true then [33] else [])) (fun hm => (name_bytes _ h _ hm).1 rfl)
  have e1 : nameT (lineL x) = x.f0.data.toList := by unfold nameT; rw [e, t1]
  have e2 : restT (lineL x) = wordL x.f1 ++ (if x.f2 = true then [33] else []) := by unfold restT; rw [e, t2]; rfl
  have hn : (33 : UInt8) ∉ wordL x.f1 := fun hm => (word_mem _ _ hm).2.2 rfl
  unfold fieldT
  rw [e1, e2, bl_eta]
  unfold kindT
  by_cases hm : x.f2 = true
  · rw [if_pos hm, must_snoc, decide_eq_true rfl, if_pos rfl, List.dropLast_concat, kind_word _ h1 h4, ← hm]
  · rw [if_neg hm, List.append_nil, must_word _ hn, if_neg (by decide), kind_word _ h1 h4, ← Bool.eq_false_iff.2 hm]
theorem pre_44 (c : UInt8) (t : List UInt8) (h : c ≠ 44) : (List.isPrefixOf [44, 32] (c :: t)) = false := by
  simp only [List.isPrefixOf, Bool.and_eq_false_iff, beq_eq_false_iff_ne]
  exact .inl (fun e => h e.symm)
theorem index_no : ∀ x : List UInt8, 44 ∉ x → Lib.index x [44, 32] = -1
  | [], h => rfl
  | c :: t, h => by
    rw [Lib.index, pre_44 c t (fun e => h (e ▸ List.mem_cons_self)), index_no t (fun hh => h (List.mem_cons_of_mem _ hh))]; rfl
theorem index_at (r : List UInt8) : ∀ x : List UInt8, 44 ∉ x → Lib.index (x ++ 44 :: 32 :: r) [44, 32] = (x.length : Int)
  | [], h => by
    rw [List.nil_append, Lib.index, if_pos (by simp [List.isPrefixOf])]; rfl
  | c :: t, h => by
    rw [List.cons_append, Lib.index, pre_44 c _ (fun e => h (e ▸ List.mem_cons_self)), index_at r t (fun hh => h (List.mem_cons_of_mem _ hh)), if_neg (by decide), if_neg (by rw [beq_iff_eq]; omega), List.length_cons]; omega
theorem join_two (x y : List UInt8) (ys : List (List UInt8)) : Lib.join (x :: y :: ys) [44, 32] = x ++ 44 :: 32 :: Lib.join (y :: ys) [44, 32] := by
  rw [Lib.join_cons, Lib.join_cons]
  unfold Lib.joinTail
  rw [List.map_cons, List.flatten_cons, List.append_assoc]
  rfl
theorem split_join : ∀ (xs : List (List UInt8)) (x : List UInt8), (∀ y ∈ x :: xs, (44 : UInt8) ∉ y) → Lib.count (Lib.join (x :: xs) [44, 32]) [44, 32] = xs.length ∧ Lib.splitK [44, 32] 0 xs.length (Lib.join (x :: xs) [44, 32]) = x :: xs
  | [], x, h => by
    rw [Lib.join_one]
    exact ⟨Lib.count_miss (index_no x (h x List.mem_cons_self)), rfl⟩
  | y :: ys, x, h => by
    have hi := index_at (Lib.join (y :: ys) [44, 32]) x (h x List.mem_cons_self)
    obtain ⟨h1, h2⟩ := split_join ys y (fun z hz => h z (List.mem_cons_of_mem _ hz))
    have hd : (x ++ 44 :: 32 :: Lib.join (y :: ys) [44, 32]).drop (x.length + ([44, 32] : List UInt8).length) = Lib.join (y :: ys) [44, 32] := by
      rw [← List.drop_drop, List.drop_left]; rfl
    rw [join_two]
    refine ⟨?_, ?_⟩
    · rw [Lib.count_hit (by decide) hi, hd, h1, List.length_cons]; omega
    · rw [List.length_cons, Lib.splitK, hi, if_neg (by rw [beq_iff_eq]; omega), Int.toNat_natCast, hd, h2, Nat.add_zero, List.take_left]
theorem parts_app : ∀ (x cur rest : List UInt8) (first : Bool), 44 ∉ x → partsR first cur (x ++ rest) = partsR first (cur ++ x) rest
  | [], cur, rest, first, h => by rw [List.append_nil]; rfl
  | c :: t, cur, rest, first, h => by
    have hc : ¬ c = 44 := fun e => h (by rw [e]; exact List.mem_cons_self)
    rw [List.cons_append, partsR, if_neg hc, parts_app t (cur ++ [c]) rest first (fun hh => h (List.mem_cons_of_mem _ hh)), List.append_assoc]; rfl
theorem parts_false : ∀ (xs : List (List UInt8)) (x : List UInt8), (∀ y ∈ x :: xs, (44 : UInt8) ∉ y) → partsR false [32] (Lib.join (x :: xs) [44, 32]) = x :: xs
  | [], x, h => by
    have := parts_app x [32] [] false (h x List.mem_cons_self)
    rw [List.append_nil] at this
    rw [Lib.join_one, this]; rfl
  | y :: ys, x, h => by
    rw [join_two, parts_app x [32] _ false (h x List.mem_cons_self), partsR, if_pos rfl, partsR, if_neg (by decide), List.nil_append, parts_false ys y (fun z hz => h z (List.mem_cons_of_mem _ hz))]; rfl
theorem parts_true (xs : List (List UInt8)) (x : List UInt8) (h : ∀ y ∈ x :: xs, (44 : UInt8) ∉ y) : partsR true [] (Lib.join (x :: xs) [44, 32]) = x :: xs := by
  cases xs with
  | nil =>
    have := parts_app x [] [] true (h x List.mem_cons_self)
    rw [List.append_nil] at this
    rw [Lib.join_one, this]; rfl
  | cons y ys =>
    rw [join_two, parts_app x [] _ true (h x List.mem_cons_self), partsR, if_pos rfl, partsR, if_neg (by decide), show ([] ++ [32] : List UInt8) = [32] from rfl, parts_false ys y (fun z hz => h z (List.mem_cons_of_mem _ hz))]; rfl
theorem lines_back (l : List Fld) (h : checkF l = true) : (l.map lineL).map fieldT = l := by
  obtain ⟨ha, _⟩ := checkF_all l h
  rw [List.map_map]
  have : ∀ m : List Fld, (∀ x ∈ m, x ∈ l) → m.map (fieldT ∘ lineL) = m := by
    intro m
    induction m with
    | nil => intro _; rfl
    | cons y ys ih =>
      intro hm
      obtain ⟨k0, k1, k4⟩ := ha y (hm y List.mem_cons_self)
      rw [List.map_cons, ih (fun z hz => hm z (List.mem_cons_of_mem _ hz))]
      exact congrArg (fun z => z :: ys) (field_line y k0 k1 k4)
  exact this l (fun x hx => hx)
theorem lines_44 (l : List Fld) (h : checkF l = true) : ∀ y ∈ l.map lineL, (44 : UInt8) ∉ y := by
  intro y hy
  obtain ⟨x, hx, rfl⟩ := List.mem_map.1 hy
  exact line_44 x ((checkF_all l h).1 x hx).1
theorem parseQ_show (l : List Fld) (h : checkF l = true) (hn : l ≠ []) : parseQ (bl (showL l)) = l := by
  have hb := lines_back l h
  have h44 := lines_44 l h
  unfold parseQ partsQ
  have hd := Lib.splitB_data (bl [44, 32]) 0 (Lib.countB (bl (showL l)) (bl [44, 32])) (bl (showL l))
  have e : (Lib.splitB (bl [44, 32]) 0 (Lib.countB (bl (showL l)) (bl [44, 32])) (bl (showL l))).map (fun p => fieldT p.data.toList) = ((Lib.splitB (bl [44, 32]) 0 (Lib.countB (bl (showL l)) (bl [44, 32])) (bl (showL l))).map (·.data.toList)).map fieldT := by rw [List.map_map]; rfl
  rw [e, hd]
  show (Lib.splitK [44, 32] 0 (Lib.count (showL l) [44, 32]) (showL l)).map fieldT = l
  unfold showL
  cases l with
  | nil => exact absurd rfl hn
  | cons x xs =>
    obtain ⟨h1, h2⟩ := split_join (xs.map lineL) (lineL x) h44
    rw [List.map_cons, h1, h2]
    exact hb
theorem parseR_show (l : List Fld) (h : checkF l = true) (hn : l ≠ []) : parseR (bl (showL l)) = l := by
  have hb := lines_back l h
  have h44 := lines_44 l h
  unfold parseR
  show (partsR true [] (showL l)).map fieldT = l
  unfold showL
  cases l with
  | nil => exact absurd rfl hn
  | cons x xs =>
    rw [List.map_cons, parts_true (xs.map lineL) (lineL x) h44]
    exact hb
theorem show_cases (l : List Fld) (s : ByteArray) (h : (showB l).toList = s.toList) (h0 : s.toList ≠ []) (h45 : s.toList ≠ [45]) : checkF l = true ∧ l ≠ [] ∧ s = bl (showL l) := by
  unfold showB at h
  by_cases hc : checkF l = true
  · rw [if_pos hc] at h
    by_cases hz : l.length = 0
    · rw [if_pos hz, bl_toList] at h
      exact absurd h.symm h45
    · rw [if_neg hz, bl_toList] at h
      refine ⟨hc, fun e => hz (by rw [e]; rfl), ?_⟩
      rw [h, bl_eta2, bl_eta]
  · rw [if_neg hc, bl_toList] at h
    exact absurd h.symm h0
/-- Both read a line alike. -/
theorem parse_both (s : ByteArray) (h45 : s.toList ≠ [45]) : ∃ (m : List Fld) (e : Int), resQ s (parseQ s) = (m, e) ∧ resR s (parseR s) = (m.map toR, e) ∧ ((m = [] ∧ e = 3) ∨ (checkF m = true ∧ m ≠ [] ∧ e = 0 ∧ s = bl (showL m) ∧ m = parseQ s)) := by
  unfold resQ resR
  by_cases h0 : s.toList = []
  · refine ⟨[], 3, ?_, ?_, .inl ⟨rfl, rfl⟩⟩
    · rw [if_pos h0]; split <;> rfl
    · rw [if_pos h0]; rfl
  rw [if_neg h0, if_neg h0]
  by_cases hq : (showB (parseQ s)).toList = s.toList
  · obtain ⟨k1, k2, k3⟩ := show_cases _ s hq h0 h45
    have e : parseR s = parseQ s := by
      have := parseR_show (parseQ s) k1 k2
      rw [← k3] at this; exact this
    refine ⟨parseQ s, 0, ?_, ?_, .inr ⟨k1, k2, rfl, k3, rfl⟩⟩
    · rw [if_pos hq]
    · rw [e, if_pos hq]
  · have hr : ¬ (showB (parseR s)).toList = s.toList := by
      intro hr
      obtain ⟨k1, k2, k3⟩ := show_cases _ s hr h0 h45
      have e := parseQ_show (parseR s) k1 k2
      rw [← k3] at e
      rw [e] at hq
      exact hq hr
    refine ⟨[], 3, ?_, ?_, .inl ⟨rfl, rfl⟩⟩
    · rw [if_neg hq]
    · rw [if_neg hr]; rfl
theorem same_ev (l : List FldR) (hl : l.length < 1000000) : Evn (fun k => caduceusref04_Same.f k l l) true := by
  refine Evn.pos rfl ?_
  refine Evn.loop (g := fun k i => caduceusref04_Same.l0 k l l i) l (by omega) (fun _ => True) (fun _ _ => true) ?_ ?_ l [] rfl trivial
  · intro _ hn
    exact Evn.step (fun k => caduceusref04_Same.l0.eq_2 ..) (Evn.neg hn (Evn.ret _))
  · intro pre x post e _ hlt h0 hw hget hmem ih
    refine Evn.step (fun k => caduceusref04_Same.l0.eq_2 ..) (Evn.pos hlt (Evn.pos h0 (Evn.pos hlt ?_)))
    rw [hw, beq_self_eq_true, beq_self_eq_true, beq_self_eq_true]
    exact Evn.neg (by decide) (ih trivial)
end Go.Proofs.YtnbbajiabbmdmaaGreatDoor.U8
namespace Go.Proofs.YtnbbajiabbmdmaaGreatDoor.U8
open Go.RowKit Go.Proofs.YtnbbajiabbmdmaaGreatDoor.A Go.Proofs.YtnbbajiabbmdmaaGreatDoorW.PrintWords Go.Proofs.YtnbbajiabbmdmaaGreatDoorW.PrintLast Go.Lib
set_option linter.unusedVariables false
set_option maxRecDepth 100000 in
theorem awake4_true : caduceuslaw04_awake.f 80 = some true := by decide +kernel
theorem awake4 : Evn (fun k => caduceuslaw04_awake.f k) true := Evn.of 80 (fun k h => at_rounds (fun k => caduceuslaw04_awake.mono k) h awake4_true)
end Go.Proofs.YtnbbajiabbmdmaaGreatDoor.U8
namespace Go.Proofs.YtnbbajiabbmdmaaGreatDoor.Pure
open Go.RowKit Go.Proofs.YtnbbajiabbmdmaaGreatDoor.A Go.Proofs.YtnbbajiabbmdmaaGreatDoor.U8 Go.Proofs.YtnbbajiabbmdmaaGreatDoorW.PrintWords Go.Proofs.YtnbbajiabbmdmaaGreatDoorW.PrintLast
set_option linter.unusedVariables false
set_option linter.unusedSimpArgs false
theorem parse_alike (s : ByteArray) (hs : s.size < 15000) : ∃ (m : List Fld) (e : Int), Evn (fun k => schema_Parse.f k s) (m, e) ∧ Evn (fun k => caduceusref04_Parse.f k s) (m.map toR, e) ∧ m.length < 20000 := by
  by_cases h : s.toList = [45]
  · have h1 := parse_q s hs
    have h2 := parse_r s hs
    rw [if_pos h] at h1 h2
    exact ⟨[], 0, h1, h2, by decide⟩
  · have h1 := parse_q s hs
    have h2 := parse_r s hs
    rw [if_neg h] at h1 h2
    obtain ⟨m, e, e1, e2, e3⟩ := parse_both s h
    rw [e1] at h1
    rw [e2] at h2
    refine ⟨m, e, h1, h2, ?_⟩
    rcases e3 with ⟨rfl, _⟩ | ⟨k, _⟩
    · decide
    · have := (checkF_all m k).2; omega
theorem SchemaLines (l : List Fld) (s : ByteArray) (hm : l.length ≤ maxLen) (hw : ∀ v ∈ l, (Lit.int .i64 v.f1).wf = true) (hz : s.size ≤ 140737488351232) :
    ∃ k, caduceuslaw04_SchemaLines.f k l s = some true := by
  have no : Evn (fun k => caduceuslaw04_SchemaLines.j0 k l s true) true := Evn.step (fun k => caduceuslaw04_SchemaLines.j0.eq_2 ..) (Evn.pos rfl (Evn.bind awake4 (Evn.ret _)))
  refine Evn.get (g := fun k => caduceuslaw04_SchemaLines.f k l s) (Evn.bind (fewF_ev l) (Evn.ite (fun h1 => ?_) (fun _ => no)))
  obtain ⟨f1, f2⟩ := fewF_true l h1
  have f3 : ∀ x ∈ l, x.f0.size < 20000 := fun x hx => by have := f2 x hx; omega
  by_cases hc : s.size ≤ 2000
  · rw [decide_eq_false (by omega)]
    obtain ⟨m, e, h1, h2, h3⟩ := parse_alike s (by omega)
    refine Evn.step (fun k => caduceuslaw04_SchemaLines.j0.eq_2 ..) (Evn.neg (by decide) ?_)
    refine Evn.bind h1 (Evn.bind h2 (Evn.bind awake4 (Evn.pos rfl ?_)))
    refine Evn.bind (show_q l f3 (by omega)) (Evn.bind (refsF_ev l (by omega)) (Evn.bind (show_r l f3 (by omega)) (Evn.pos rfl ?_)))
    refine Evn.bind (refsF_ev m (by omega)) (Evn.bind (same_ev (m.map toR) (by rw [List.length_map]; omega)) (Evn.pos rfl (Evn.con ?_)))
    rw [beq_self_eq_true]
  · rw [decide_eq_true (by omega)]
    exact no
end Go.Proofs.YtnbbajiabbmdmaaGreatDoor.Pure
