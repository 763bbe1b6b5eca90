import Derived.Lib.DecodeNEq
import Derived.Lib.ValidU
import Derived.Lib.Bytes
import Derived.Test.YtnbbajiabbmdmaaGreatDoorAx0
import Derived.Test.YtnbbajiabbmdmaaGreatDoorAx4
import Derived.Test.YtnbbajiabbmdmaaGreatDoorAx5
import Derived.Test.YtnbbajiabbmdmaaGreatDoorAx6
import Derived.Test.YtnbbajiabbmdmaaGreatDoorAx7
import Derived.Test.YtnbbajiabbmdmaaGreatDoorAx8
import Derived.Test.YtnbbajiabbmdmaaGreatDoorAx9
import Derived.Test.YtnbbajiabbmdmaaGreatDoorAx11
import Derived.Test.YtnbbajiabbmdmaaGreatDoorAx12
import Derived.Test.YtnbbajiabbmdmaaGreatDoorAx13
import Derived.Test.YtnbbajiabbmdmaaGreatDoorAx14
import Derived.Test.YtnbbajiabbmdmaaGreatDoorAx15
import Derived.Test.YtnbbajiabbmdmaaGreatDoorAx16
import Derived.Test.YtnbbajiabbmdmaaGreatDoorAx17
import Derived.Test.YtnbbajiabbmdmaaGreatDoorAx18
import Derived.Test.YtnbbajiabbmdmaaGreatDoorAx19
import Derived.Test.YtnbbajiabbmdmaaGreatDoorAx20
import Derived.Test.YtnbbajiabbmdmaaGreatDoorAx21
import Derived.Test.YtnbbajiabbmdmaaGreatDoorAx22
import Derived.Test.YtnbbajiabbmdmaaGreatDoorAx23
import Derived.Test.YtnbbajiabbmdmaaGreatDoorAx24
import Derived.Test.YtnbbajiabbmdmaaGreatDoorAx34
import Derived.Test.YtnbbajiabbmdmaaGreatDoorAx35
namespace Go.Proofs.YtnbbajiabbmdmaaGreatDoor.U8
def cmpI : List Int → List Int → Int
  | [], [] => 0
  | [], _ :: _ => -1
  | _ :: _, [] => 1
  | a :: x, b :: y => if a < b then -1 else if b < a then 1 else cmpI x y
open Go.RowKit Go.Proofs.YtnbbajiabbmdmaaGreatDoor.A Go.Proofs.YtnbbajiabbmdmaaGreatDoorW.PrintWords Go.Proofs.YtnbbajiabbmdmaaGreatDoorW.PrintLast Go.Lib
set_option linter.unusedVariables false
/-- What a function comes to, with enough rounds. -/
def Evn {α : Type} (g : Nat → Option α) (v : α) : Prop := ∃ K, ∀ k, K ≤ k → g k = some v
theorem Evn.of {α : Type} {g : Nat → Option α} {v : α} (K : Nat) (h : ∀ k, K ≤ k → g k = some v) : Evn g v := ⟨K, h⟩
theorem Evn.of1 {α : Type} {g : Nat → Option α} {v : α} (h : ∀ k, g (k + 1) = some v) : Evn g v := ⟨1, fun k hk => by
  obtain ⟨j, rfl⟩ : ∃ j, k = j + 1 := ⟨k - 1, by omega⟩
  exact h j⟩
theorem Evn.ret {α : Type} (v : α) : Evn (fun _ => some v) v := ⟨0, fun _ _ => rfl⟩
theorem Evn.con {α : Type} {o : Option α} {v : α} (h : o = some v) : Evn (fun _ => o) v := ⟨0, fun _ _ => h⟩
theorem Evn.step {α : Type} {g g' : Nat → Option α} {v : α} (e : ∀ k, g (k + 1) = g' k) (h : Evn g' v) : Evn g v := by
  obtain ⟨K, h⟩ := h
  refine ⟨K + 1, fun k hk => ?_⟩
  obtain ⟨j, rfl⟩ : ∃ j, k = j + 1 := ⟨k - 1, by omega⟩
  exact (e j).trans (h j (by omega))
theorem Evn.val {α : Type} {g : Nat → Option α} {v v' : α} (e : v = v') (h : Evn g v) : Evn g v' := e ▸ h
theorem Evn.pos {α : Type} {c : Prop} [Decidable c] {a b : Nat → Option α} {v : α} (hc : c) (h : Evn a v) : Evn (fun k => if c then a k else b k) v := by
  obtain ⟨K, h⟩ := h
  exact ⟨K, fun k hk => (if_pos hc).trans (h k hk)⟩
theorem Evn.neg {α : Type} {c : Prop} [Decidable c] {a b : Nat → Option α} {v : α} (hc : ¬ c) (h : Evn b v) : Evn (fun k => if c then a k else b k) v := by
  obtain ⟨K, h⟩ := h
  exact ⟨K, fun k hk => (if_neg hc).trans (h k hk)⟩
theorem Evn.ite {α : Type} {c : Prop} [Decidable c] {a b : Nat → Option α} {v : α} (h1 : c → Evn a v) (h2 : ¬ c → Evn b v) : Evn (fun k => if c then a k else b k) v := by
  by_cases h : c
  · exact Evn.pos h (h1 h)
  · exact Evn.neg h (h2 h)
theorem Evn.bind {α β : Type} {g : Nat → Option α} {u : α} {h : Nat → α → Option β} {v : β} (hg : Evn g u) (hh : Evn (fun k => h k u) v) : Evn (fun k => (g k).bind (h k)) v := by
  obtain ⟨K, hg⟩ := hg
  obtain ⟨L, hh⟩ := hh
  refine ⟨K + L, fun k hk => ?_⟩
  show (g k).bind (h k) = some v
  rw [hg k (by omega), Option.bind_some]
  exact hh k (by omega)
theorem Evn.bc {α β : Type} {o : Option α} {u : α} {h : Nat → α → Option β} {v : β} (hg : o = some u) (hh : Evn (fun k => h k u) v) : Evn (fun k => o.bind (h k)) v := Evn.bind (Evn.con hg) hh
theorem Evn.get {α : Type} {g : Nat → Option α} {v : α} (h : Evn g v) : ∃ k, g k = some v := let ⟨K, h⟩ := h; ⟨K, h K (Nat.le_refl _)⟩
theorem w1p {α : Type} (pre : List α) (x : α) (h : pre.length < 4000000000000000000) : wrap64 ((pre.length : Int) + 1) = ((pre ++ [x]).length : Int) := by
  have e : (pre ++ [x]).length = pre.length + 1 := by rw [List.length_append]; rfl
  rw [e]; unfold wrap64; omega
theorem w1m {α : Type} (pre : List α) (x : α) (h : pre.length < 4000000000000000000) : wrap64 (((pre ++ [x]).length : Int) - 1) = (pre.length : Int) := by
  have e : (pre ++ [x]).length = pre.length + 1 := by rw [List.length_append]; rfl
  rw [e]; unfold wrap64; omega
theorem snocLen {α : Type} (pre : List α) (x : α) : (pre ++ [x]).length = pre.length + 1 := by rw [List.length_append]; rfl
theorem ltp {α : Type} (pre : List α) (x : α) (post : List α) : (pre.length : Int) < ((pre ++ x :: post).length : Int) := by
  rw [List.length_append, List.length_cons]; omega
theorem getDp {α : Type} (pre : List α) (x : α) (post : List α) (z : α) : (pre ++ x :: post).getD ((pre.length : Int)).toNat z = x := by
  rw [Int.toNat_natCast, List.getD_eq_getElem?_getD, List.getElem?_append_right (Nat.le_refl _), Nat.sub_self]; rfl
theorem getDq {α : Type} (pre : List α) (y : α) (post : List α) (z : α) : ((pre ++ [y]) ++ post).getD ((pre.length : Int)).toNat z = y := by
  rw [List.append_assoc]; exact getDp pre y post z
/-- A loop over the places of a list, of any length. -/
theorem Evn.loopS {α β : Type} {g : Nat → Int → Option β} (l : List α) (I : List α → Prop) (S : List α → List α → β)
    (h0 : I l → ¬ (l.length : Int) < (l.length : Int) → Evn (fun k => g k (l.length : Int)) (S l []))
    (hs : ∀ pre x post, l = pre ++ x :: post → I pre → (pre.length : Int) < (l.length : Int) → 0 ≤ (pre.length : Int) → (pre.length < 4000000000000000000 → wrap64 ((pre.length : Int) + 1) = ((pre ++ [x]).length : Int)) → (∀ z, l.getD ((pre.length : Int)).toNat z = x) → x ∈ l →
      (I (pre ++ [x]) → Evn (fun k => g k ((pre ++ [x]).length : Int)) (S (pre ++ [x]) post)) → Evn (fun k => g k (pre.length : Int)) (S pre (x :: post))) :
    ∀ (post pre : List α), l = pre ++ post → I pre → Evn (fun k => g k (pre.length : Int)) (S pre post)
  | [], pre, e, hi => by
    rw [List.append_nil] at e
    subst e
    exact h0 hi (by omega)
  | x :: post, pre, e, hi => by
    have hlt : (pre.length : Int) < (l.length : Int) := by rw [e]; exact ltp pre x post
    exact hs pre x post e hi hlt (Int.natCast_nonneg _) (fun hb => w1p pre x hb) (fun z => by rw [e]; exact getDp pre x post z) (by rw [e]; simp)
      (fun hi' => Evn.loopS l I S h0 hs post (pre ++ [x]) (by rw [e, List.append_assoc]; rfl) hi')
/-- A loop over the places of a list. -/
theorem Evn.loop {α β : Type} {g : Nat → Int → Option β} (l : List α) (hl : l.length < 4000000000000000000) (I : List α → Prop) (S : List α → List α → β)
    (h0 : I l → ¬ (l.length : Int) < (l.length : Int) → Evn (fun k => g k (l.length : Int)) (S l []))
    (hs : ∀ pre x post, l = pre ++ x :: post → I pre → (pre.length : Int) < (l.length : Int) → 0 ≤ (pre.length : Int) → wrap64 ((pre.length : Int) + 1) = ((pre ++ [x]).length : Int) → (∀ z, l.getD ((pre.length : Int)).toNat z = x) → x ∈ l →
      (I (pre ++ [x]) → Evn (fun k => g k ((pre ++ [x]).length : Int)) (S (pre ++ [x]) post)) → Evn (fun k => g k (pre.length : Int)) (S pre (x :: post))) :
    ∀ (post pre : List α), l = pre ++ post → I pre → Evn (fun k => g k (pre.length : Int)) (S pre post) :=
  Evn.loopS l I S h0 (fun pre x post e hi h1 h2 h3 h4 h5 h6 => hs pre x post e hi h1 h2 (h3 (by omega)) h4 h5 h6)
end Go.Proofs.YtnbbajiabbmdmaaGreatDoor.U8
namespace Go.Proofs.YtnbbajiabbmdmaaGreatDoor.U8
open Go.RowKit Go.Proofs.YtnbbajiabbmdmaaGreatDoorW.PrintWords Go.Proofs.YtnbbajiabbmdmaaGreatDoorW.PrintLast Go.Lib
set_option linter.unusedVariables false
/-- Is a byte one that goes on? -/
def tl (n i b : Nat) : Prop := i < n ∧ 128 ≤ b ∧ b < 192
instance (n i b : Nat) : Decidable (tl n i b) := by unfold tl; exact inferInstance
/-- The rune at the front, and how many bytes it has; (0, 0): there is none. As the document defines it. -/
def decR (n b0 b1 b2 b3 : Nat) : Nat × Nat :=
  if n = 0 then (0, 0)
  else if b0 < 128 then (b0, 1)
  else if 194 ≤ b0 ∧ b0 < 224 ∧ tl n 1 b1 then (64 * (b0 - 192) + (b1 - 128), 2)
  else if 224 ≤ b0 ∧ b0 < 240 ∧ tl n 1 b1 ∧ tl n 2 b2 ∧ 2048 ≤ 4096 * (b0 - 224) + 64 * (b1 - 128) + (b2 - 128) ∧ (4096 * (b0 - 224) + 64 * (b1 - 128) + (b2 - 128) < 55296 ∨ 57343 < 4096 * (b0 - 224) + 64 * (b1 - 128) + (b2 - 128)) then (4096 * (b0 - 224) + 64 * (b1 - 128) + (b2 - 128), 3)
  else if 240 ≤ b0 ∧ b0 < 245 ∧ tl n 1 b1 ∧ tl n 2 b2 ∧ tl n 3 b3 ∧ 65536 ≤ 262144 * (b0 - 240) + 4096 * (b1 - 128) + 64 * (b2 - 128) + (b3 - 128) ∧ 262144 * (b0 - 240) + 4096 * (b1 - 128) + 64 * (b2 - 128) + (b3 - 128) ≤ 1114111 then (262144 * (b0 - 240) + 4096 * (b1 - 128) + 64 * (b2 - 128) + (b3 - 128), 4)
  else (0, 0)
set_option maxHeartbeats 4000000 in
set_option maxRecDepth 100000 in
theorem decR_decodeN (n b0 b1 b2 b3 : Nat) (hn : n ≠ 0) (h0 : b0 < 256) (h1 : b1 < 256) (h2 : b2 < 256) (h3 : b3 < 256) :
    decR n b0 b1 b2 b3 = if decodeN n b0 b1 b2 b3 = (65533, 1) then (0, 0) else decodeN n b0 b1 b2 b3 := by
  have fin : ∀ X Y : Nat × Nat, decR n b0 b1 b2 b3 = X → decodeN n b0 b1 b2 b3 = Y → (X = if Y = (65533, 1) then (0, 0) else Y) → decR n b0 b1 b2 b3 = if decodeN n b0 b1 b2 b3 = (65533, 1) then (0, 0) else decodeN n b0 b1 b2 b3 := by
    intro X Y e1 e2 e3; rw [e1, e2]; exact e3
  have bad : decR n b0 b1 b2 b3 = (0, 0) → decodeN n b0 b1 b2 b3 = (65533, 1) → decR n b0 b1 b2 b3 = if decodeN n b0 b1 b2 b3 = (65533, 1) then (0, 0) else decodeN n b0 b1 b2 b3 := fun e1 e2 => fin _ _ e1 e2 (by rw [if_pos rfl])
  have good : ∀ X : Nat × Nat, X.2 ≠ 1 ∨ X.1 ≠ 65533 → decR n b0 b1 b2 b3 = X → decodeN n b0 b1 b2 b3 = X → decR n b0 b1 b2 b3 = if decodeN n b0 b1 b2 b3 = (65533, 1) then (0, 0) else decodeN n b0 b1 b2 b3 := fun X h e1 e2 => fin _ _ e1 e2 (by
    rw [if_neg]; intro e; rw [e] at h; simp at h)
  by_cases c0 : b0 < 128
  · exact good (b0, 1) (.inr (by show b0 ≠ 65533; omega)) (by unfold decR; rw [if_neg hn, if_pos c0]) (by unfold decodeN; rw [if_pos c0])
  by_cases c1 : b0 < 192
  · exact bad (by unfold decR; rw [if_neg hn, if_neg c0, if_neg (by omega), if_neg (by omega), if_neg (by omega)]) (by unfold decodeN; rw [if_neg c0, if_neg (by omega), if_neg (by omega), if_neg (by omega)])
  by_cases c2 : b0 < 224
  · by_cases k : 194 ≤ b0 ∧ b0 < 224 ∧ tl n 1 b1
    · have k' := k
      unfold tl at k'
      refine good (64 * (b0 - 192) + (b1 - 128), 2) (.inl (by simp)) (by unfold decR; rw [if_neg hn, if_neg c0, if_pos k]) ?_
      unfold decodeN
      rw [if_neg c0, if_pos (by omega), if_pos (by omega)]
      exact Prod.ext (by show _ = _; omega) rfl
    · have k' := k
      unfold tl at k'
      refine bad (by unfold decR; rw [if_neg hn, if_neg c0, if_neg k, if_neg (by omega), if_neg (by omega)]) ?_
      unfold decodeN
      rw [if_neg c0]
      by_cases k2 : b0 / 32 = 6 ∧ 1 < n ∧ b1 / 64 = 2
      · rw [if_pos k2, if_neg (by omega)]
      · rw [if_neg k2, if_neg (by omega), if_neg (by omega)]
  by_cases c3 : b0 < 240
  · by_cases k : 224 ≤ b0 ∧ b0 < 240 ∧ tl n 1 b1 ∧ tl n 2 b2 ∧ 2048 ≤ 4096 * (b0 - 224) + 64 * (b1 - 128) + (b2 - 128) ∧ (4096 * (b0 - 224) + 64 * (b1 - 128) + (b2 - 128) < 55296 ∨ 57343 < 4096 * (b0 - 224) + 64 * (b1 - 128) + (b2 - 128))
    · have k' := k
      unfold tl at k'
      refine good (4096 * (b0 - 224) + 64 * (b1 - 128) + (b2 - 128), 3) (.inl (by simp)) (by unfold decR; rw [if_neg hn, if_neg c0, if_neg (by omega), if_pos k]) ?_
      unfold decodeN
      rw [if_neg c0, if_neg (by omega), if_pos (by omega), if_pos (by omega)]
      exact Prod.ext (by show _ = _; omega) rfl
    · have k' := k
      unfold tl at k'
      refine bad (by unfold decR; rw [if_neg hn, if_neg c0, if_neg (by omega), if_neg k, if_neg (by omega)]) ?_
      unfold decodeN
      rw [if_neg c0, if_neg (by omega)]
      by_cases k2 : b0 / 16 = 14 ∧ (1 < n ∧ b1 / 64 = 2) ∧ (2 < n ∧ b2 / 64 = 2)
      · rw [if_pos k2, if_neg (by omega)]
      · rw [if_neg k2, if_neg (by omega)]
  · by_cases k : 240 ≤ b0 ∧ b0 < 245 ∧ tl n 1 b1 ∧ tl n 2 b2 ∧ tl n 3 b3 ∧ 65536 ≤ 262144 * (b0 - 240) + 4096 * (b1 - 128) + 64 * (b2 - 128) + (b3 - 128) ∧ 262144 * (b0 - 240) + 4096 * (b1 - 128) + 64 * (b2 - 128) + (b3 - 128) ≤ 1114111
    · have k' := k
      unfold tl at k'
      refine good (262144 * (b0 - 240) + 4096 * (b1 - 128) + 64 * (b2 - 128) + (b3 - 128), 4) (.inl (by simp)) (by unfold decR; rw [if_neg hn, if_neg c0, if_neg (by omega), if_neg (by omega), if_pos k]) ?_
      unfold decodeN
      rw [if_neg c0, if_neg (by omega), if_neg (by omega), if_pos (by omega), if_pos (by omega)]
      exact Prod.ext (by show _ = _; omega) rfl
    · have k' := k
      unfold tl at k'
      refine bad (by unfold decR; rw [if_neg hn, if_neg c0, if_neg (by omega), if_neg (by omega), if_neg k]) ?_
      unfold decodeN
      rw [if_neg c0, if_neg (by omega), if_neg (by omega)]
      by_cases k2 : b0 / 8 = 30 ∧ (1 < n ∧ b1 / 64 = 2) ∧ (2 < n ∧ b2 / 64 = 2) ∧ (3 < n ∧ b3 / 64 = 2)
      · rw [if_pos k2, if_neg (by omega)]
      · rw [if_neg k2]
/-- Byte i of a list, as a number; 0 beyond its end. -/
def byt (l : List UInt8) (i : Nat) : Nat := (l.getD i 0).toNat
theorem byt_lt (l : List UInt8) (i : Nat) : byt l i < 256 := UInt8.toNat_lt _
def dec (l : List UInt8) : Nat × Nat := decR l.length (byt l 0) (byt l 1) (byt l 2) (byt l 3)
theorem get_byt (l : List UInt8) (i : Nat) : ((⟨l.toArray⟩ : ByteArray).get! i).toNat = byt l i := by
  unfold byt
  show (l.toArray[i]!).toNat = _
  by_cases h : i < l.length
  · simp [h, List.getD_eq_getElem?_getD]
  · simp [h, List.getD_eq_getElem?_getD]
    rfl
theorem decodeL_byt (l : List UInt8) : decodeL l = decodeN l.length (byt l 0) (byt l 1) (byt l 2) (byt l 3) := by
  unfold decodeL
  rw [decode_at]
  simp only [Nat.zero_add, get_byt]
  rfl
theorem dec_decodeL (l : List UInt8) (h : l ≠ []) : dec l = if decodeL l = (65533, 1) then (0, 0) else decodeL l := by
  rw [decodeL_byt]
  exact decR_decodeN _ _ _ _ _ (by simpa using h) (byt_lt _ _) (byt_lt _ _) (byt_lt _ _) (byt_lt _ _)
theorem bt_byt (s : ByteArray) (i : Int) : bt s i = (byt s.data.toList i.toNat : Int) := by
  unfold bt byt
  split
  · rename_i h
    have : i.toNat < s.data.toList.length := by rw [Array.length_toList]; exact h
    simp only [List.getD_eq_getElem?_getD, List.getElem?_eq_getElem this, Option.getD_some, Array.getElem_toList]
    rfl
  · rename_i h
    have : s.data.toList.length ≤ i.toNat := by rw [Array.length_toList]; exact Nat.not_lt.1 h
    simp [List.getD_eq_getElem?_getD, List.getElem?_eq_none this]
/-- Its width: none, or one to four, and no more than there are bytes. -/
theorem dec_width (l : List UInt8) : (dec l).2 ≤ 4 ∧ (dec l).2 ≤ l.length ∧ ((dec l).2 = 0 → (dec l).1 = 0) ∧ (dec l).1 ≤ 1114111 := by
  have h0 := byt_lt l 0
  have h1 := byt_lt l 1
  have h2 := byt_lt l 2
  have h3 := byt_lt l 3
  unfold dec decR tl
  repeat' split
  all_goals (refine ⟨?_, ?_, ?_, ?_⟩ <;> first | (simp only; omega) | (intro _; rfl) | (intro h; simp at h))
/-- Is a text UTF-8, from front to end? -/
def validF : Nat → List UInt8 → Bool
  | 0, l => l.isEmpty
  | f + 1, l => if l.isEmpty then true else if (dec l).2 = 0 then false else validF f (l.drop (dec l).2)
theorem validGoD_validF : ∀ (f : Nat) (l : List UInt8), l.length ≤ f → validGoD f l = validF f l
  | 0, l, h => by
    have : l = [] := List.eq_nil_of_length_eq_zero (by omega)
    subst this; rfl
  | f + 1, l, h => by
    by_cases hl : l = []
    · unfold validGoD validF; rw [if_pos hl, if_pos (by simp [hl])]
    · have e := dec_decodeL l hl
      have hw := dec_width l
      have hG : validGoD (f + 1) l = if (decodeL l).1 = 65533 ∧ (decodeL l).2 = 1 then false else validGoD f (l.drop (decodeL l).2) := by
        conv => lhs; unfold validGoD
        rw [if_neg hl]
      have hF : validF (f + 1) l = if (dec l).2 = 0 then false else validF f (l.drop (dec l).2) := by
        conv => lhs; unfold validF
        rw [if_neg (by simpa using hl)]
      rw [hG, hF]
      by_cases hb : decodeL l = (65533, 1)
      · rw [if_pos (by rw [hb]; exact ⟨rfl, rfl⟩), if_pos (by rw [e, if_pos hb])]
      · rw [if_neg hb] at e
        have hpos := decodeL_width l
        rw [if_neg (fun h => hb (Prod.ext h.1 h.2)), if_neg (by rw [e]; omega), e]
        refine validGoD_validF f _ ?_
        rw [List.length_drop]; omega
theorem validD_validF (l : List UInt8) : validD l = validF l.length l := validGoD_validF _ _ (Nat.le_refl _)
end Go.Proofs.YtnbbajiabbmdmaaGreatDoor.U8
namespace Go.Proofs.YtnbbajiabbmdmaaGreatDoor.U8
open Go.RowKit Go.Proofs.YtnbbajiabbmdmaaGreatDoor.A Go.Proofs.YtnbbajiabbmdmaaGreatDoorW.PrintWords Go.Proofs.YtnbbajiabbmdmaaGreatDoorW.PrintLast Go.Lib
set_option linter.unusedVariables false
set_option linter.unusedSimpArgs false
theorem w64 {x : Int} (h0 : -9223372036854775808 ≤ x) (h1 : x ≤ 9223372036854775807) : wrap64 x = x := by unfold wrap64; omega
theorem toList_nil (s : ByteArray) : (s.toList = ([] : List UInt8)) ↔ s.size = 0 := by
  rw [ByteArray.toList_eq]
  constructor
  · intro h
    have := data_length s
    rw [h] at this
    exact this.symm
  · intro h
    exact List.eq_nil_of_length_eq_zero (by rw [data_length]; exact h)
theorem extract_toList (s : ByteArray) (i : Nat) : (s.extract i s.size).data.toList = s.data.toList.drop i := by
  have e : s.size = s.data.toList.length := (Array.length_toList).symm
  rw [ByteArray.data_extract, Array.toList_extract, e]
  simp [List.extract]
  exact List.take_of_length_le (by rw [List.length_drop]; omega)
theorem byt_drop (l : List UInt8) (i j : Nat) : byt (l.drop i) j = byt l (i + j) := by
  unfold byt
  rw [List.getD_eq_getElem?_getD, List.getD_eq_getElem?_getD, List.getElem?_drop]
theorem size_len (b : ByteArray) : b.size = b.data.toList.length := (Array.length_toList).symm
end Go.Proofs.YtnbbajiabbmdmaaGreatDoor.U8
namespace Go.Proofs.YtnbbajiabbmdmaaGreatDoor.U8
open Go.RowKit Go.Proofs.YtnbbajiabbmdmaaGreatDoor.A Go.Proofs.YtnbbajiabbmdmaaGreatDoorW.PrintWords Go.Proofs.YtnbbajiabbmdmaaGreatDoorW.PrintLast Go.Lib
set_option linter.unusedVariables false
set_option linter.unusedSimpArgs false
theorem get_byt2 (s : ByteArray) (i : Nat) : (s.get! i).toNat = byt s.data.toList i := by
  have := get_byt s.data.toList i
  have e : (⟨s.data.toList.toArray⟩ : ByteArray) = s := by cases s; simp
  rwa [e] at this
theorem decode_drop (s : ByteArray) (i : Nat) : Utf8.decode s i = decodeL (s.data.toList.drop i) := by
  rw [decode_at, decodeL_byt, get_byt2, get_byt2, get_byt2, get_byt2, byt_drop, byt_drop, byt_drop, byt_drop, List.length_drop, ← size_len]
  rfl
theorem decode_dec (s : ByteArray) (i : Nat) (hi : i < s.size) (h : (dec (s.data.toList.drop i)).2 ≠ 0) : Utf8.decode s i = dec (s.data.toList.drop i) := by
  have hne : s.data.toList.drop i ≠ [] := by
    intro e
    have := congrArg List.length e
    rw [List.length_drop, ← size_len] at this
    simp at this
    omega
  rw [decode_drop]
  have e := dec_decodeL _ hne
  by_cases hb : decodeL (s.data.toList.drop i) = (65533, 1)
  · rw [if_pos hb] at e; rw [e] at h; exact absurd rfl h
  · rw [if_neg hb] at e; exact e.symm
/-- The runes of a text, as far as it is UTF-8. -/
def runesF : Nat → List UInt8 → List Nat
  | 0, _ => []
  | f + 1, l => if l.isEmpty then [] else if (dec l).2 = 0 then [] else (dec l).1 :: runesF f (l.drop (dec l).2)
def runesOf (l : List UInt8) : List Nat := runesF l.length l
def ints (l : List Nat) : List Int := l.map (fun x : Nat => (x : Int))
end Go.Proofs.YtnbbajiabbmdmaaGreatDoor.U8
namespace Go.Proofs.YtnbbajiabbmdmaaGreatDoor.U8
open Go.RowKit Go.Proofs.YtnbbajiabbmdmaaGreatDoor.A Go.Proofs.YtnbbajiabbmdmaaGreatDoorW.PrintWords Go.Proofs.YtnbbajiabbmdmaaGreatDoorW.PrintLast Go.Lib
set_option linter.unusedVariables false
set_option linter.unusedSimpArgs false
/-- What is decoded is a rune that may be, and is written as it stood there. -/
theorem dec_enc (l : List UInt8) (h : (dec l).2 ≠ 0) : decodeL l = dec l ∧ ((dec l).1 < 55296 ∨ (57343 < (dec l).1 ∧ (dec l).1 ≤ 1114111)) ∧ encodeRune ((dec l).1 : Int) = l.take (dec l).2 ∧ l ≠ [] := by
  have hne : l ≠ [] := by
    rintro rfl
    exact h rfl
  have e := dec_decodeL l hne
  have e2 : ¬ decodeL l = (65533, 1) := fun hh => by rw [if_pos hh] at e; rw [e] at h; exact h rfl
  rw [if_neg e2] at e
  refine ⟨e.symm, ?_, ?_, hne⟩
  · have h0 := byt_lt l 0
    have h1 := byt_lt l 1
    have h2 := byt_lt l 2
    have h3 := byt_lt l 3
    revert h
    unfold dec decR tl
    repeat' split
    all_goals first | (intro h; exact absurd rfl h) | (intro h; simp only; omega)
  · rw [e]
    exact encode_decode l hne (fun hh => e2 (Prod.ext hh.1 hh.2))
/-- A rune that may be. -/
def okC (c : Nat) : Prop := c < 55296 ∨ (57343 < c ∧ c ≤ 1114111)
theorem u8n (n : Nat) (h : n < 256) : (n.toUInt8).toNat = n := by
  show (UInt8.ofNat n).toNat = n
  rw [UInt8.toNat_ofNat']; omega
theorem byt0 (b : UInt8) (l : List UInt8) : byt (b :: l) 0 = b.toNat := rfl
theorem byt1 (a b : UInt8) (l : List UInt8) : byt (a :: b :: l) 1 = b.toNat := rfl
theorem byt2 (a b c : UInt8) (l : List UInt8) : byt (a :: b :: c :: l) 2 = c.toNat := rfl
theorem byt3 (a b c d : UInt8) (l : List UInt8) : byt (a :: b :: c :: d :: l) 3 = d.toNat := rfl
theorem dec_encode (c : Nat) (h : okC c) (l : List UInt8) : dec (encodeRune (c : Int) ++ l) = (c, (encodeRune (c : Int)).length) := by
  unfold okC at h
  unfold encodeRune
  by_cases c1 : c < 128
  · rw [encodeRuneZ_one (by omega) (by omega)]
    simp only [List.map_cons, List.map_nil, List.cons_append, List.nil_append, Int.toNat_natCast]
    unfold dec decR
    rw [byt0, u8n c (by omega), if_neg (by simp), if_pos c1]
    rfl
  by_cases c2 : c < 2048
  · rw [encodeRuneZ_two (by omega) (by omega)]
    simp only [List.map_cons, List.map_nil, List.cons_append, List.nil_append]
    rw [show (192 + (c : Int) / 64).toNat = 192 + c / 64 by omega, show (128 + (c : Int) % 64).toNat = 128 + c % 64 by omega]
    unfold dec decR tl
    rw [byt0, byt1, u8n _ (by omega), u8n _ (by omega), if_neg (by simp), if_neg (by omega), if_pos ⟨by omega, by omega, by simp, by omega, by omega⟩]
    exact Prod.ext (by show 64 * (192 + c / 64 - 192) + (128 + c % 64 - 128) = c; omega) rfl
  by_cases c3 : c < 65536
  · rw [encodeRuneZ_three (by omega)]
    simp only [List.map_cons, List.map_nil, List.cons_append, List.nil_append]
    rw [show (224 + (c : Int) / 4096).toNat = 224 + c / 4096 by omega, show (128 + (c : Int) / 64 % 64).toNat = 128 + c / 64 % 64 by omega, show (128 + (c : Int) % 64).toNat = 128 + c % 64 by omega]
    have e : 4096 * (224 + c / 4096 - 224) + 64 * (128 + c / 64 % 64 - 128) + (128 + c % 64 - 128) = c := by omega
    unfold dec decR tl
    rw [byt0, byt1, byt2, u8n _ (by omega), u8n _ (by omega), u8n _ (by omega), if_neg (by simp), if_neg (by omega), if_neg (by omega), if_pos ⟨by omega, by omega, ⟨by simp, by omega, by omega⟩, ⟨by simp, by omega, by omega⟩, by omega, by omega⟩]
    exact Prod.ext e rfl
  · rw [encodeRuneZ_four (by omega) (by omega)]
    simp only [List.map_cons, List.map_nil, List.cons_append, List.nil_append]
    rw [show (240 + (c : Int) / 262144).toNat = 240 + c / 262144 by omega, show (128 + (c : Int) / 4096 % 64).toNat = 128 + c / 4096 % 64 by omega, show (128 + (c : Int) / 64 % 64).toNat = 128 + c / 64 % 64 by omega, show (128 + (c : Int) % 64).toNat = 128 + c % 64 by omega]
    have e : 262144 * (240 + c / 262144 - 240) + 4096 * (128 + c / 4096 % 64 - 128) + 64 * (128 + c / 64 % 64 - 128) + (128 + c % 64 - 128) = c := by omega
    unfold dec decR tl
    rw [byt0, byt1, byt2, byt3, u8n _ (by omega), u8n _ (by omega), u8n _ (by omega), u8n _ (by omega), if_neg (by simp), if_neg (by omega), if_neg (by omega), if_neg (by omega), if_pos ⟨by omega, by omega, ⟨by simp, by omega, by omega⟩, ⟨by simp, by omega, by omega⟩, ⟨by simp, by omega, by omega⟩, by omega, by omega⟩]
    exact Prod.ext e rfl
def encL : List Nat → List UInt8
  | [] => []
  | c :: cs => encodeRune (c : Int) ++ encL cs
theorem enc_pos (c : Nat) : 1 ≤ (encodeRune (c : Int)).length := by
  unfold encodeRune
  rw [List.length_map]
  exact (encodeRuneZ_length (c : Int)).1
theorem runes_enc : ∀ (cs : List Nat) (m : Nat), (∀ c ∈ cs, okC c) → (encL cs).length ≤ m → runesF m (encL cs) = cs ∧ validF m (encL cs) = true
  | [], m, h, hm => by cases m <;> exact ⟨rfl, rfl⟩
  | c :: cs, m, h, hm => by
    have hp := enc_pos c
    rw [encL, List.length_append] at hm
    obtain ⟨m, rfl⟩ : ∃ q, m = q + 1 := ⟨m - 1, by omega⟩
    have hd := dec_encode c (h c (List.mem_cons_self ..)) (encL cs)
    have hne : ¬ ((encL (c :: cs)).isEmpty = true) := by
      intro e
      rw [List.isEmpty_iff] at e
      have := congrArg List.length e
      rw [encL, List.length_append, List.length_nil] at this
      omega
    obtain ⟨i1, i2⟩ := runes_enc cs m (fun x hx => h x (List.mem_cons_of_mem _ hx)) (by omega)
    rw [runesF, validF, if_neg hne, if_neg hne, encL, hd]
    dsimp only
    rw [if_neg (by omega), if_neg (by omega), List.drop_left, i1, i2]
    exact ⟨rfl, rfl⟩
theorem enc_runes : ∀ (m : Nat) (l : List UInt8), l.length ≤ m → validF m l = true → encL (runesF m l) = l ∧ ∀ c ∈ runesF m l, okC c
  | 0, l, hl, hv => by
    have : l = [] := List.eq_nil_of_length_eq_zero (by omega)
    subst this
    exact ⟨rfl, fun c hc => by simp [runesF] at hc⟩
  | m + 1, l, hl, hv => by
    by_cases he : l.isEmpty = true
    · rw [runesF, if_pos he]
      rw [List.isEmpty_iff] at he
      subst he
      exact ⟨rfl, fun c hc => by simp at hc⟩
    · rw [validF, if_neg he] at hv
      by_cases hz : (dec l).2 = 0
      · rw [if_pos hz] at hv; cases hv
      · rw [if_neg hz] at hv
        obtain ⟨_, ho, hen, _⟩ := dec_enc l hz
        obtain ⟨i1, i2⟩ := enc_runes m (l.drop (dec l).2) (by rw [List.length_drop]; omega) hv
        rw [runesF, if_neg he, if_neg hz, encL, i1, hen, List.take_append_drop]
        refine ⟨rfl, fun c hc => ?_⟩
        rcases List.mem_cons.1 hc with rfl | hc
        · exact ho
        · exact i2 c hc
theorem valid_runes (a : ByteArray) (hv : validD a.data.toList = true) : encL (runesOf a.data.toList) = a.data.toList ∧ ∀ c ∈ runesOf a.data.toList, okC c := by
  rw [validD_validF] at hv
  exact enc_runes _ _ (Nat.le_refl _) hv
theorem valid_runesL (x : List UInt8) (h : validD x = true) : encL (runesOf x) = x ∧ ∀ c ∈ runesOf x, okC c := valid_runes ⟨x.toArray⟩ h
theorem count_runes (s : ByteArray) : ∀ (cs : List Nat) (f pos : Nat), (∀ c ∈ cs, okC c) → pos ≤ s.size → s.data.toList.drop pos = encL cs → s.size - pos ≤ f → Lib.runeCountFrom s f pos = cs.length
  | [], f, pos, ho, hp, hd, hf => by
    have hl := congrArg List.length hd
    rw [List.length_drop, ← size_len] at hl
    have e : (encL []).length = 0 := rfl
    exact Lib.runeCountFrom_end s f pos (by omega)
  | c :: cs, f, pos, ho, hp, hd, hf => by
    have hl := congrArg List.length hd
    have hp1 := enc_pos c
    rw [List.length_drop, ← size_len, encL, List.length_append] at hl
    have hlt : pos < s.size := by omega
    obtain ⟨f, rfl⟩ : ∃ q, f = q + 1 := ⟨f - 1, by omega⟩
    have hdec : dec (s.data.toList.drop pos) = (c, (encodeRune (c : Int)).length) := by rw [hd, encL]; exact dec_encode c (ho c (List.mem_cons_self ..)) _
    have e : Utf8.decode s pos = (c, (encodeRune (c : Int)).length) := by
      rw [decode_dec s pos hlt (by rw [hdec]; show (encodeRune (c : Int)).length ≠ 0; omega), hdec]
    rw [Lib.runeCountFrom, if_pos hlt, e, List.length_cons]
    rw [count_runes s cs f (pos + (encodeRune (c : Int)).length) (fun x hx => ho x (List.mem_cons_of_mem _ hx)) (by omega) (by rw [← List.drop_drop, hd, encL, List.drop_left]) (by omega)]
    omega
theorem count_ev (s : ByteArray) (hv : validD s.data.toList = true) : Lib.runeCount s = (runesOf s.data.toList).length := by
  obtain ⟨e1, o1⟩ := valid_runesL _ hv
  exact count_runes s _ s.size 0 o1 (Nat.zero_le _) e1.symm (by omega)
end Go.Proofs.YtnbbajiabbmdmaaGreatDoor.U8
namespace Go.Proofs.YtnbbajiabbmdmaaGreatDoor.U8
open Go.RowKit Go.Proofs.YtnbbajiabbmdmaaGreatDoor.A Go.Proofs.YtnbbajiabbmdmaaGreatDoorW.PrintWords Go.Proofs.YtnbbajiabbmdmaaGreatDoorW.PrintLast Go.Lib
set_option linter.unusedVariables false
set_option linter.unusedSimpArgs false
/-- A letter made small. -/
def smallI (c : Int) : Int := if (65 ≤ c ∧ c ≤ 90) ∨ (192 ≤ c ∧ c ≤ 222 ∧ ¬ c = 215) ∨ (913 ≤ c ∧ c ≤ 937 ∧ ¬ c = 930) ∨ (1040 ≤ c ∧ c ≤ 1071) then c + 32 else c
theorem small_q (c : Int) (h0 : 0 ≤ c) (hc : c ≤ 1114111) : name_Small.f c = some (smallI c) := by
  by_cases e1 : c = 215
  · subst e1; decide +kernel
  by_cases e3 : c = 930
  · subst e3; decide +kernel
  have n1 : (c = 215) = False := eq_false e1
  have n3 : (c = 930) = False := eq_false e3
  have hw : wrap32 (c + 32) = c + 32 := by unfold wrap32; omega
  have cs : c < 65 ∨ (65 ≤ c ∧ c ≤ 90) ∨ (91 ≤ c ∧ c < 192) ∨ (192 ≤ c ∧ c ≤ 222) ∨ (223 ≤ c ∧ c < 913) ∨ (913 ≤ c ∧ c ≤ 937) ∨ (938 ≤ c ∧ c < 1040) ∨ (1040 ≤ c ∧ c ≤ 1071) ∨ 1072 ≤ c := by omega
  rcases cs with h | h | h | h | h | h | h | h | h
  all_goals (
    (first | have l65 : (65 ≤ c) = True := eq_true (by omega) | have l65 : (65 ≤ c) = False := eq_false (by omega)); (first | have u90 : (c ≤ 90) = True := eq_true (by omega) | have u90 : (c ≤ 90) = False := eq_false (by omega))
    (first | have l192 : (192 ≤ c) = True := eq_true (by omega) | have l192 : (192 ≤ c) = False := eq_false (by omega)); (first | have u222 : (c ≤ 222) = True := eq_true (by omega) | have u222 : (c ≤ 222) = False := eq_false (by omega))
    (first | have l913 : (913 ≤ c) = True := eq_true (by omega) | have l913 : (913 ≤ c) = False := eq_false (by omega)); (first | have u937 : (c ≤ 937) = True := eq_true (by omega) | have u937 : (c ≤ 937) = False := eq_false (by omega))
    (first | have l1040 : (1040 ≤ c) = True := eq_true (by omega) | have l1040 : (1040 ≤ c) = False := eq_false (by omega)); (first | have u1071 : (c ≤ 1071) = True := eq_true (by omega) | have u1071 : (c ≤ 1071) = False := eq_false (by omega))
    simp only [name_Small.f, name_between.f, smallI, ge_iff_le, n1, n3, hw, l65, u90, l192, u222, l913, u937, l1040, u1071, Option.bind_some, decide_true, decide_false, Bool.false_eq_true, Bool.true_eq_false, if_true, if_false, reduceIte, and_true, true_and, and_false, false_and, or_true, true_or, or_false, false_or, and_self, or_self, not_true, not_false_eq_true, ne_eq])
theorem small_ok (c : Nat) (h : okC c) : okC (smallI (c : Int)).toNat ∧ smallI (c : Int) = (((smallI (c : Int)).toNat : Nat) : Int) := by
  unfold okC at *
  unfold smallI
  split <;> omega
end Go.Proofs.YtnbbajiabbmdmaaGreatDoor.U8
namespace Go.Proofs.YtnbbajiabbmdmaaGreatDoor.U8
open Go.RowKit Go.Proofs.YtnbbajiabbmdmaaGreatDoor.A Go.Proofs.YtnbbajiabbmdmaaGreatDoorW.PrintWords Go.Proofs.YtnbbajiabbmdmaaGreatDoorW.PrintLast Go.Lib
set_option linter.unusedVariables false
end Go.Proofs.YtnbbajiabbmdmaaGreatDoor.U8
namespace Go.Proofs.YtnbbajiabbmdmaaGreatDoor.U8
open Go.RowKit Go.Proofs.YtnbbajiabbmdmaaGreatDoor.A Go.Proofs.YtnbbajiabbmdmaaGreatDoorW.PrintWords Go.Proofs.YtnbbajiabbmdmaaGreatDoorW.PrintLast Go.Lib
set_option linter.unusedVariables false
set_option linter.unusedSimpArgs false
def smallN (c : Nat) : Nat := (smallI (c : Int)).toNat
theorem fold_go (s : ByteArray) : ∀ (cs : List Nat) (f pos : Nat) (acc : List Int), (∀ c ∈ cs, okC c) → pos ≤ s.size → s.data.toList.drop pos = encL cs → s.size - pos < f → name_Fold.go s f pos acc = some (acc ++ ints (cs.map smallN))
  | cs, 0, pos, acc, ho, hp, hd, hf => by omega
  | [], f + 1, pos, acc, ho, hp, hd, hf => by
    have hl := congrArg List.length hd
    rw [List.length_drop, ← size_len] at hl
    have e : (encL []).length = 0 := rfl
    rw [name_Fold.go, if_neg (by omega)]
    show some acc = some (acc ++ [])
    rw [List.append_nil]
  | c :: cs, f + 1, pos, acc, ho, hp, hd, hf => by
    have hl := congrArg List.length hd
    have hp1 := enc_pos c
    rw [List.length_drop, ← size_len, encL, List.length_append] at hl
    have hlt : pos < s.size := by omega
    have hdec : dec (s.data.toList.drop pos) = (c, (encodeRune (c : Int)).length) := by rw [hd, encL]; exact dec_encode c (ho c (List.mem_cons_self ..)) _
    have e : Utf8.decode s pos = (c, (encodeRune (c : Int)).length) := by
      rw [decode_dec s pos hlt (by rw [hdec]; show (encodeRune (c : Int)).length ≠ 0; omega), hdec]
    have hc := ho c (List.mem_cons_self ..)
    have ih := fun b => fold_go s cs f (pos + (encodeRune (c : Int)).length) b (fun x hx => ho x (List.mem_cons_of_mem _ hx)) (by omega) (by rw [← List.drop_drop, hd, encL, List.drop_left]) (by omega)
    rw [name_Fold.go, if_pos hlt, e]
    dsimp only
    rw [small_q (c : Int) (by omega) (by unfold okC at hc; omega), Option.bind_some, ih, (small_ok c hc).2, List.append_assoc]
    rfl
theorem w1n2 (i : Nat) (h : i < 200000) : wrap64 ((i : Int) + 1) = ((i + 1 : Nat) : Int) := by rw [w64 (by omega) (by omega)]; omega
end Go.Proofs.YtnbbajiabbmdmaaGreatDoor.U8
namespace Go.Proofs.YtnbbajiabbmdmaaGreatDoor.U8
open Go.RowKit Go.Proofs.YtnbbajiabbmdmaaGreatDoor.A Go.Proofs.YtnbbajiabbmdmaaGreatDoorW.PrintWords Go.Proofs.YtnbbajiabbmdmaaGreatDoorW.PrintLast Go.Lib
set_option linter.unusedVariables false
set_option linter.unusedSimpArgs false
/-- Go's writing of a rune and the model's are the same bytes. -/
theorem enc_rune2 (r : Nat) (hv : r < 55296 ∨ (57343 < r ∧ r ≤ 1114111)) : (Utf8.encode (r : Int)).data.toList = encodeRune (r : Int) := by
  have hvalid : Utf8.valid (r : Int) = true := by
    unfold Utf8.valid
    simp only [Bool.or_eq_true, Bool.and_eq_true, decide_eq_true_eq]
    omega
  unfold Utf8.encode encodeRune
  simp only [hvalid, if_true, Int.toNat_natCast]
  by_cases c1 : r < 128
  · rw [if_pos c1, encodeRuneZ_one (by omega) (by omega)]; simp
  by_cases c2 : r < 2048
  · rw [if_neg c1, if_pos c2, encodeRuneZ_two (by omega) (by omega)]
    simp only [List.map_cons, List.map_nil]
    rw [show (192 + (r : Int) / 64).toNat = 192 + r / 64 by omega, show (128 + (r : Int) % 64).toNat = 128 + r % 64 by omega]
  by_cases c3 : r < 65536
  · rw [if_neg c1, if_neg c2, if_pos c3, encodeRuneZ_three (by omega)]
    simp only [List.map_cons, List.map_nil]
    rw [show (224 + (r : Int) / 4096).toNat = 224 + r / 4096 by omega, show (128 + (r : Int) / 64 % 64).toNat = 128 + r / 64 % 64 by omega, show (128 + (r : Int) % 64).toNat = 128 + r % 64 by omega]
  · rw [if_neg c1, if_neg c2, if_neg c3, encodeRuneZ_four (by omega) (by omega)]
    simp only [List.map_cons, List.map_nil]
    rw [show (240 + (r : Int) / 262144).toNat = 240 + r / 262144 by omega, show (128 + (r : Int) / 4096 % 64).toNat = 128 + r / 4096 % 64 by omega, show (128 + (r : Int) / 64 % 64).toNat = 128 + r / 64 % 64 by omega, show (128 + (r : Int) % 64).toNat = 128 + r % 64 by omega]
theorem foldl_enc : ∀ (cs : List Nat) (r : ByteArray), (∀ c ∈ cs, okC c) → ((ints cs).foldl (fun r n => r ++ Utf8.encode n) r).data.toList = r.data.toList ++ encL cs
  | [], r, _ => (List.append_nil _).symm
  | c :: cs, r, ho => by
    have ih := foldl_enc cs (r ++ Utf8.encode (c : Int)) (fun x hx => ho x (List.mem_cons_of_mem _ hx))
    refine ih.trans ?_
    rw [ByteArray.data_append, Array.toList_append, enc_rune2 c (ho c List.mem_cons_self), encL, List.append_assoc]
theorem runesBytes_enc (cs : List Nat) (ho : ∀ c ∈ cs, okC c) : runesBytes (ints cs) = ⟨(encL cs).toArray⟩ := by
  refine ByteArray.ext (Array.ext' ?_)
  exact foldl_enc cs ByteArray.empty ho
/-- A name made small, as both make it. -/
def foldB (s : ByteArray) : ByteArray := if validD s.data.toList = true then ⟨(encL ((runesOf s.data.toList).map smallN)).toArray⟩ else s
theorem fold_q (s : ByteArray) (hs : s.size < 1000000) : name_Fold.f s = some (foldB s) := by
  unfold name_Fold.f foldB
  rw [if_pos (show s.size ≤ 1099511627776 by omega)]
  by_cases hv : validD s.data.toList = true
  · obtain ⟨e1, o1⟩ := valid_runesL _ hv
    have hm : ∀ c ∈ (runesOf s.data.toList).map smallN, okC c := by
      intro c hc
      obtain ⟨x, hx, rfl⟩ := List.mem_map.1 hc
      exact (small_ok x (o1 x hx)).1
    rw [if_pos hv, if_pos hv, fold_go s _ (s.size + 1) 0 [] o1 (Nat.zero_le _) e1.symm (by omega), Option.bind_some, List.nil_append, runesBytes_enc _ hm]
  · rw [if_neg hv, if_neg hv]
theorem encL_len2 : ∀ cs : List Nat, cs.length ≤ (encL cs).length
  | [] => Nat.le_refl _
  | c :: cs => by
    have := encL_len2 cs; have := enc_pos c
    rw [encL, List.length_append, List.length_cons]; omega
end Go.Proofs.YtnbbajiabbmdmaaGreatDoor.U8
namespace Go.Proofs.YtnbbajiabbmdmaaGreatDoor.U8
open Go.RowKit Go.Proofs.YtnbbajiabbmdmaaGreatDoor.A Go.Proofs.YtnbbajiabbmdmaaGreatDoorW.PrintWords Go.Proofs.YtnbbajiabbmdmaaGreatDoorW.PrintLast Go.Lib
set_option linter.unusedVariables false
set_option linter.unusedSimpArgs false
theorem cmp_rune (a b : Int) : cmp_Compare_rune.f a b = some (if a < b then -1 else if b < a then 1 else 0) := by
  unfold cmp_Compare_rune.f cmp_isNaN_rune.f
  simp only [bne_self_eq_false, Option.bind_some, Bool.false_eq_true, if_false, ne_eq, not_true_eq_false, decide_false, gt_iff_lt]
  split
  · rfl
  · split <;> rfl
theorem rdd (x : List Int) (i : Nat) (h : i < x.length) : rd x (i : Int) = x[i] := by
  unfold rd
  rw [Int.toNat_natCast, List.getD_eq_getElem?_getD, List.getElem?_eq_getElem h]; rfl
theorem slcmp_l0 (x y : List Int) (hl : x.length < 100000) (k : Nat) : ∀ (m i : Nat), i + m = x.length → slices_Compare_rune_rune.l0 (k + m + 1) x y x (x.length : Int) (i : Int) = some (cmpI (x.drop i) (y.drop i))
  | 0, i, hi => by
    have h1 : ¬ ((i : Int) < (x.length : Int)) := by omega
    rw [slices_Compare_rune_rune.l0, if_neg h1, List.drop_of_length_le (show x.length ≤ i by omega)]
    by_cases h : x.length < y.length
    · rw [if_pos (show (x.length : Int) < (y.length : Int) by omega), List.drop_eq_getElem_cons (show i < y.length by omega)]; rfl
    · rw [if_neg (show ¬ (x.length : Int) < (y.length : Int) by omega), List.drop_of_length_le (show y.length ≤ i by omega)]; rfl
  | m + 1, i, hi => by
    have hx : i < x.length := by omega
    have h1 : (i : Int) < (x.length : Int) := by omega
    have w1 : wrap64 ((i : Int) + 1) = ((i + 1 : Nat) : Int) := w1n2 i (by omega)
    have ih := slcmp_l0 x y hl k m (i + 1) (by omega)
    rw [show k + (m + 1) + 1 = (k + m + 1) + 1 from rfl, slices_Compare_rune_rune.l0, if_pos h1, if_pos (Int.natCast_nonneg i), if_pos h1, List.drop_eq_getElem_cons hx]
    by_cases hy : i < y.length
    · have h2 : (i : Int) < (y.length : Int) := by omega
      have h3 : ¬ ((i : Int) ≥ (y.length : Int)) := by omega
      rw [if_neg h3, if_pos h2, rdd x i hx, rdd y i hy, cmp_rune, Option.bind_some, w1, ih, List.drop_eq_getElem_cons hy, cmpI]
      by_cases c1 : x[i] < y[i]
      · rw [if_pos c1, if_pos c1, if_neg (by decide)]
      rw [if_neg c1, if_neg c1]
      by_cases c2 : y[i] < x[i]
      · rw [if_pos c2, if_pos c2, if_neg (by decide)]
      · rw [if_neg c2, if_neg c2, if_pos rfl]
    · have h3 : (i : Int) ≥ (y.length : Int) := by omega
      rw [if_pos h3, List.drop_of_length_le (show y.length ≤ i by omega)]; rfl
theorem slcmp_q (x y : List Int) (hl : x.length < 100000) (k : Nat) (hk : x.length + 1 ≤ k) : slices_Compare_rune_rune.f k x y = some (cmpI x y) := by
  have h := slcmp_l0 x y hl (k - x.length - 1) x.length 0 (by omega)
  rw [show k - x.length - 1 + x.length + 1 = k by omega] at h
  unfold slices_Compare_rune_rune.f
  exact h
end Go.Proofs.YtnbbajiabbmdmaaGreatDoor.U8
namespace Go.Proofs.YtnbbajiabbmdmaaGreatDoor.U8
open Go.RowKit Go.Proofs.YtnbbajiabbmdmaaGreatDoor.A Go.Proofs.YtnbbajiabbmdmaaGreatDoorW.PrintWords Go.Proofs.YtnbbajiabbmdmaaGreatDoorW.PrintLast Go.Lib
set_option linter.unusedVariables false
set_option linter.unusedSimpArgs false
theorem runesI_go (s : ByteArray) : ∀ (cs : List Nat) (b pos : Nat), (∀ c ∈ cs, okC c) → pos ≤ s.size → s.data.toList.drop pos = encL cs → s.size - pos ≤ b → runesI s b pos = ints cs
  | [], 0, pos, ho, hp, hd, hf => rfl
  | c :: cs, 0, pos, ho, hp, hd, hf => by
    have hl := congrArg List.length hd
    have hp1 := enc_pos c
    rw [List.length_drop, ← size_len, encL, List.length_append] at hl
    omega
  | [], b + 1, pos, ho, hp, hd, hf => by
    have hl := congrArg List.length hd
    rw [List.length_drop, ← size_len] at hl
    have e : (encL []).length = 0 := rfl
    rw [runesI, if_neg (by omega)]; rfl
  | c :: cs, b + 1, pos, ho, hp, hd, hf => by
    have hl := congrArg List.length hd
    have hp1 := enc_pos c
    rw [List.length_drop, ← size_len, encL, List.length_append] at hl
    have hlt : pos < s.size := by omega
    have hdec : dec (s.data.toList.drop pos) = (c, (encodeRune (c : Int)).length) := by rw [hd, encL]; exact dec_encode c (ho c (List.mem_cons_self ..)) _
    have e : Utf8.decode s pos = (c, (encodeRune (c : Int)).length) := by
      rw [decode_dec s pos hlt (by rw [hdec]; show (encodeRune (c : Int)).length ≠ 0; omega), hdec]
    have ih := runesI_go s cs b (pos + (encodeRune (c : Int)).length) (fun x hx => ho x (List.mem_cons_of_mem _ hx)) (by omega) (by rw [← List.drop_drop, hd, encL, List.drop_left]) (by omega)
    rw [runesI, if_pos hlt, e]
    dsimp only
    rw [ih]; rfl
theorem fold_ok (s : ByteArray) (hv : validD s.data.toList = true) : ∀ c ∈ (runesOf s.data.toList).map smallN, okC c := by
  obtain ⟨e1, o1⟩ := valid_runesL _ hv
  intro c hc
  obtain ⟨x, hx, rfl⟩ := List.mem_map.1 hc
  exact (small_ok x (o1 x hx)).1
theorem fold_list (s : ByteArray) (hv : validD s.data.toList = true) : (foldB s).data.toList = encL ((runesOf s.data.toList).map smallN) := by
  unfold foldB
  rw [if_pos hv]
theorem fold_valid (s : ByteArray) (hv : validD s.data.toList = true) : validD (foldB s).data.toList = true ∧ runesOf (foldB s).data.toList = (runesOf s.data.toList).map smallN := by
  have h := runes_enc _ _ (fold_ok s hv) (Nat.le_refl _)
  rw [fold_list s hv, validD_validF]
  exact ⟨h.2, h.1⟩
theorem encL_four : ∀ cs : List Nat, (encL cs).length ≤ 4 * cs.length
  | [] => Nat.le_refl _
  | c :: cs => by
    have h1 := encL_four cs
    have h4 : (encodeRune (c : Int)).length ≤ 4 := by unfold encodeRune; rw [List.length_map]; exact (encodeRuneZ_length (c : Int)).2
    rw [encL, List.length_append, List.length_cons]; omega
theorem fold_size (s : ByteArray) (hv : validD s.data.toList = true) : (foldB s).size ≤ 4 * s.size ∧ (runesOf s.data.toList).length ≤ s.size := by
  obtain ⟨e1, o1⟩ := valid_runesL _ hv
  have hlen : (runesOf s.data.toList).length ≤ s.size := by
    have := encL_len2 (runesOf s.data.toList)
    rw [e1, ← size_len] at this; exact this
  have h := encL_four ((runesOf s.data.toList).map smallN)
  rw [← fold_list s hv, ← size_len, List.length_map] at h
  exact ⟨by omega, hlen⟩
/-- How two names stand, as both say it. -/
def cmpB (a b : ByteArray) : Int := cmpI (ints ((runesOf a.data.toList).map smallN)) (ints ((runesOf b.data.toList).map smallN))
theorem runesI_fold (s : ByteArray) (hv : validD s.data.toList = true) : runesI (foldB s) (foldB s).size 0 = ints ((runesOf s.data.toList).map smallN) :=
  runesI_go (foldB s) _ _ 0 (fold_ok s hv) (Nat.zero_le _) (fold_list s hv) (by omega)
theorem compare_q (a b : ByteArray) (ha : a.size < 20000) (hb : b.size < 20000) (va : validD a.data.toList = true) (vb : validD b.data.toList = true) (k : Nat) (hk : a.size + 1 ≤ k) : name_Compare.f k a b = some (cmpB a b) := by
  obtain ⟨a1, a2⟩ := fold_size a va
  obtain ⟨b1, b2⟩ := fold_size b vb
  unfold name_Compare.f cmpB
  rw [fold_q a (by omega), Option.bind_some, fold_q b (by omega), Option.bind_some, if_pos (show (foldB a).size ≤ 1099511627776 by omega), if_pos (show (foldB b).size ≤ 1099511627776 by omega), if_pos (fold_valid a va).1, if_pos (fold_valid b vb).1, runesI_fold a va, runesI_fold b vb]
  have hl : (ints ((runesOf a.data.toList).map smallN)).length = (runesOf a.data.toList).length := by unfold ints; rw [List.length_map, List.length_map]
  exact slcmp_q _ _ (by omega) k (by omega)
end Go.Proofs.YtnbbajiabbmdmaaGreatDoor.U8
namespace Go.Proofs.YtnbbajiabbmdmaaGreatDoor.U8
open Go.RowKit Go.Proofs.YtnbbajiabbmdmaaGreatDoor.A Go.Proofs.YtnbbajiabbmdmaaGreatDoorW.PrintWords Go.Proofs.YtnbbajiabbmdmaaGreatDoorW.PrintLast Go.Lib
set_option linter.unusedVariables false
set_option linter.unusedSimpArgs false
/-- A letter, as the document says. -/
def letB (c : Int) : Bool := (65 ≤ c && c ≤ 90) || (97 ≤ c && c ≤ 122) || (192 ≤ c && c ≤ 591 && c != 215 && c != 247) || (913 ≤ c && c ≤ 937 && c != 930) || (945 ≤ c && c ≤ 969) || (1040 ≤ c && c ≤ 1103) || (19968 ≤ c && c ≤ 40959)
theorem letter_q (c : Int) (k : Nat) : name_Letter.f (k + 1) c = some (letB c) := by
  by_cases e1 : c = 215
  · subst e1; rfl
  by_cases e2 : c = 247
  · subst e2; rfl
  by_cases e3 : c = 930
  · subst e3; rfl
  have n1 : (c = 215) = False := eq_false e1
  have m1 : (c != 215) = true := bne_iff_ne.2 e1
  have m2 : (c != 247) = true := bne_iff_ne.2 e2
  have m3 : (c != 930) = true := bne_iff_ne.2 e3
  have cs : c < 65 ∨ (65 ≤ c ∧ c < 91) ∨ (91 ≤ c ∧ c < 97) ∨ (97 ≤ c ∧ c < 123) ∨ (123 ≤ c ∧ c < 192) ∨ (192 ≤ c ∧ c < 592) ∨ (592 ≤ c ∧ c < 913) ∨ (913 ≤ c ∧ c < 938) ∨ (938 ≤ c ∧ c < 945) ∨ (945 ≤ c ∧ c < 970) ∨ (970 ≤ c ∧ c < 1040) ∨ (1040 ≤ c ∧ c < 1104) ∨ (1104 ≤ c ∧ c < 19968) ∨ (19968 ≤ c ∧ c < 40960) ∨ 40960 ≤ c := by omega
  rcases cs with h | h | h | h | h | h | h | h | h | h | h | h | h | h | h
  all_goals (
    (first | have l65 : (65 ≤ c) = True := eq_true (by omega) | have l65 : (65 ≤ c) = False := eq_false (by omega)); (first | have u90 : (c ≤ 90) = True := eq_true (by omega) | have u90 : (c ≤ 90) = False := eq_false (by omega));
    (first | have l97 : (97 ≤ c) = True := eq_true (by omega) | have l97 : (97 ≤ c) = False := eq_false (by omega)); (first | have u122 : (c ≤ 122) = True := eq_true (by omega) | have u122 : (c ≤ 122) = False := eq_false (by omega));
    (first | have l192 : (192 ≤ c) = True := eq_true (by omega) | have l192 : (192 ≤ c) = False := eq_false (by omega)); (first | have u591 : (c ≤ 591) = True := eq_true (by omega) | have u591 : (c ≤ 591) = False := eq_false (by omega));
    (first | have l913 : (913 ≤ c) = True := eq_true (by omega) | have l913 : (913 ≤ c) = False := eq_false (by omega)); (first | have u937 : (c ≤ 937) = True := eq_true (by omega) | have u937 : (c ≤ 937) = False := eq_false (by omega));
    (first | have l945 : (945 ≤ c) = True := eq_true (by omega) | have l945 : (945 ≤ c) = False := eq_false (by omega)); (first | have u969 : (c ≤ 969) = True := eq_true (by omega) | have u969 : (c ≤ 969) = False := eq_false (by omega));
    (first | have l1040 : (1040 ≤ c) = True := eq_true (by omega) | have l1040 : (1040 ≤ c) = False := eq_false (by omega)); (first | have u1103 : (c ≤ 1103) = True := eq_true (by omega) | have u1103 : (c ≤ 1103) = False := eq_false (by omega));
    (first | have l19968 : (19968 ≤ c) = True := eq_true (by omega) | have l19968 : (19968 ≤ c) = False := eq_false (by omega)); (first | have u40959 : (c ≤ 40959) = True := eq_true (by omega) | have u40959 : (c ≤ 40959) = False := eq_false (by omega))
    )
  all_goals simp only [name_Letter.f, name_Letter.j0, name_between.f, letB, ge_iff_le, n1, m1, m2, m3, l65, u90, l97, u122, l192, u591, l913, u937, l945, u969, l1040, u1103, l19968, u40959, Option.bind_some, if_true, if_false, decide_true, decide_false, Bool.and_true, Bool.and_false, Bool.true_and, Bool.false_and, Bool.or_true, Bool.or_false, Bool.true_or, Bool.false_or, Bool.false_eq_true]
end Go.Proofs.YtnbbajiabbmdmaaGreatDoor.U8
namespace Go.Proofs.YtnbbajiabbmdmaaGreatDoor.U8
open Go.RowKit Go.Proofs.YtnbbajiabbmdmaaGreatDoor.A Go.Proofs.YtnbbajiabbmdmaaGreatDoorW.PrintWords Go.Proofs.YtnbbajiabbmdmaaGreatDoorW.PrintLast Go.Lib
set_option linter.unusedVariables false
set_option linter.unusedSimpArgs false
/-- Runes that form a name: parts, a point between two. -/
def formG : Bool → List Nat → Bool
  | first, [] => !first
  | first, c :: cs => if c = 46 then (if first = true then false else formG true cs)
    else if letB (c : Int) = true ∨ c = 95 then formG false cs
    else if first = false ∧ ((48 ≤ c ∧ c ≤ 57) ∨ c = 45) then formG false cs else false
theorem nameDigit_q (c : Int) : name_digit.f c = some (decide (48 ≤ c) && decide (c ≤ 57)) := by
  unfold name_digit.f name_between.f
  by_cases h : c ≥ 48
  · rw [if_pos h, Option.bind_some, decide_eq_true (show 48 ≤ c by omega)]; rfl
  · rw [if_neg h, Option.bind_some, decide_eq_false (show ¬ 48 ≤ c by omega)]; rfl
theorem form_st (k : Nat) (first : Bool) (c : Nat) : ∃ t, name_formed.st (k + 1) first (c : Int) = some t ∧
    ((t = 0 ∧ ∀ cs, formG first (c :: cs) = false) ∨ (t = 1 ∧ ∀ cs, formG first (c :: cs) = formG false cs) ∨ (t = 2 ∧ ∀ cs, formG first (c :: cs) = formG true cs)) := by
  unfold name_formed.st
  by_cases h46 : c = 46
  · subst h46
    rw [if_pos (by decide)]
    cases first with
    | true => exact ⟨0, rfl, .inl ⟨rfl, fun cs => by rw [formG]; rfl⟩⟩
    | false => exact ⟨2, rfl, .inr (.inr ⟨rfl, fun cs => by rw [formG]; rfl⟩)⟩
  rw [if_neg (by omega), letter_q (c : Int) k, Option.bind_some]
  by_cases hl : letB (c : Int) = true
  · rw [if_pos hl]
    exact ⟨1, rfl, .inr (.inl ⟨rfl, fun cs => by rw [formG, if_neg h46, if_pos (.inl hl)]⟩)⟩
  rw [if_neg hl]
  by_cases h95 : c = 95
  · rw [if_pos (by omega)]
    exact ⟨1, rfl, .inr (.inl ⟨rfl, fun cs => by rw [formG, if_neg h46, if_pos (.inr h95)]⟩)⟩
  have hno : ¬ (letB (c : Int) = true ∨ c = 95) := fun h => h.elim hl h95
  rw [if_neg (by omega)]
  cases first with
  | true =>
    exact ⟨0, rfl, .inl ⟨rfl, fun cs => by rw [formG, if_neg h46, if_neg hno, if_neg (fun h => by cases h.1)]⟩⟩
  | false =>
    rw [if_neg (by decide), nameDigit_q, Option.bind_some]
    by_cases hd : 48 ≤ c ∧ c ≤ 57
    · rw [if_pos (by rw [decide_eq_true (by omega), decide_eq_true (by omega)]; rfl)]
      exact ⟨1, rfl, .inr (.inl ⟨rfl, fun cs => by rw [formG, if_neg h46, if_neg hno, if_pos ⟨rfl, .inl hd⟩]⟩)⟩
    have hnd : ¬ ((decide (48 ≤ (c : Int)) && decide ((c : Int) ≤ 57)) = true) := by
      rw [Bool.and_eq_true, decide_eq_true_eq, decide_eq_true_eq]; omega
    rw [if_neg hnd]
    by_cases h45 : c = 45
    · rw [if_pos (by omega)]
      exact ⟨1, rfl, .inr (.inl ⟨rfl, fun cs => by rw [formG, if_neg h46, if_neg hno, if_pos ⟨rfl, .inr h45⟩]⟩)⟩
    · rw [if_neg (by omega)]
      exact ⟨0, rfl, .inl ⟨rfl, fun cs => by rw [formG, if_neg h46, if_neg hno, if_neg (fun h => h.2.elim hd h45)]⟩⟩
theorem form_go (s : ByteArray) (k : Nat) : ∀ (cs : List Nat) (f pos : Nat) (first : Bool), (∀ c ∈ cs, okC c) → pos ≤ s.size → s.data.toList.drop pos = encL cs → s.size - pos < f → name_formed.go (k + 1) s f pos first = some (formG first cs)
  | cs, 0, pos, first, ho, hp, hd, hf => by omega
  | [], f + 1, pos, first, ho, hp, hd, hf => by
    have hl := congrArg List.length hd
    rw [List.length_drop, ← size_len] at hl
    have e : (encL []).length = 0 := rfl
    rw [name_formed.go, if_neg (by omega)]; rfl
  | c :: cs, f + 1, pos, first, ho, hp, hd, hf => by
    have hl := congrArg List.length hd
    have hp1 := enc_pos c
    rw [List.length_drop, ← size_len, encL, List.length_append] at hl
    have hlt : pos < s.size := by omega
    have hdec : dec (s.data.toList.drop pos) = (c, (encodeRune (c : Int)).length) := by rw [hd, encL]; exact dec_encode c (ho c (List.mem_cons_self ..)) _
    have e : Utf8.decode s pos = (c, (encodeRune (c : Int)).length) := by
      rw [decode_dec s pos hlt (by rw [hdec]; show (encodeRune (c : Int)).length ≠ 0; omega), hdec]
    obtain ⟨t, t1, t2⟩ := form_st k first c
    have ih := fun b => form_go s k cs f (pos + (encodeRune (c : Int)).length) b (fun x hx => ho x (List.mem_cons_of_mem _ hx)) (by omega) (by rw [← List.drop_drop, hd, encL, List.drop_left]) (by omega)
    rw [name_formed.go, if_pos hlt, e]
    dsimp only
    rw [t1, Option.bind_some]
    rcases t2 with ⟨rfl, h⟩ | ⟨rfl, h⟩ | ⟨rfl, h⟩
    · rw [if_pos rfl, h]
    · rw [if_neg (by decide), h]; exact ih false
    · rw [if_neg (by decide), h]; exact ih true
/-- Has a text the form of a name? -/
def formedB (s : ByteArray) : Bool := decide (s.size ≠ 0) && (validD s.data.toList && formG true (runesOf s.data.toList))
theorem formed_q (s : ByteArray) (hs : s.size < 1000000) (k : Nat) : name_formed.f (k + 1) s = some (formedB s) := by
  unfold name_formed.f formedB
  rw [if_pos (by omega)]
  by_cases hz : s.size = 0
  · rw [if_pos ((toList_nil s).2 hz), decide_eq_false (by omega)]; rfl
  rw [if_neg (fun h => hz ((toList_nil s).1 h)), decide_eq_true hz]
  by_cases hv : validD s.data.toList = true
  · obtain ⟨e1, o1⟩ := valid_runesL _ hv
    rw [if_pos hv, hv, form_go s k _ (s.size + 1) 0 true o1 (Nat.zero_le _) e1.symm (by omega)]; rfl
  · rw [if_neg hv, Bool.eq_false_iff.2 hv]; rfl
end Go.Proofs.YtnbbajiabbmdmaaGreatDoor.U8
namespace Go.Proofs.YtnbbajiabbmdmaaGreatDoor.U8
open Go.RowKit Go.Proofs.YtnbbajiabbmdmaaGreatDoor.A Go.Proofs.YtnbbajiabbmdmaaGreatDoorW.PrintWords Go.Proofs.YtnbbajiabbmdmaaGreatDoorW.PrintLast Go.Lib
set_option linter.unusedVariables false
set_option linter.unusedSimpArgs false
theorem enc_high (c : Nat) (h : okC c) (hc : 128 ≤ c) : ∀ b ∈ encodeRune (c : Int), 128 ≤ b.toNat := by
  unfold okC at h
  unfold encodeRune
  intro b hb
  obtain ⟨x, hx, rfl⟩ := List.mem_map.1 hb
  have key : ∃ n : Nat, x = (n : Int) ∧ 128 ≤ n ∧ n < 256 := by
    by_cases c2 : c < 2048
    · rw [encodeRuneZ_two (by omega) (by omega)] at hx
      rcases List.mem_cons.1 hx with rfl | hx
      · exact ⟨192 + c / 64, by omega, by omega, by omega⟩
      rcases List.mem_cons.1 hx with rfl | hx
      · exact ⟨128 + c % 64, by omega, by omega, by omega⟩
      · cases hx
    by_cases c3 : c < 65536
    · rw [encodeRuneZ_three (by omega)] at hx
      rcases List.mem_cons.1 hx with rfl | hx
      · exact ⟨224 + c / 4096, by omega, by omega, by omega⟩
      rcases List.mem_cons.1 hx with rfl | hx
      · exact ⟨128 + c / 64 % 64, by omega, by omega, by omega⟩
      rcases List.mem_cons.1 hx with rfl | hx
      · exact ⟨128 + c % 64, by omega, by omega, by omega⟩
      · cases hx
    · rw [encodeRuneZ_four (by omega) (by omega)] at hx
      rcases List.mem_cons.1 hx with rfl | hx
      · exact ⟨240 + c / 262144, by omega, by omega, by omega⟩
      rcases List.mem_cons.1 hx with rfl | hx
      · exact ⟨128 + c / 4096 % 64, by omega, by omega, by omega⟩
      rcases List.mem_cons.1 hx with rfl | hx
      · exact ⟨128 + c / 64 % 64, by omega, by omega, by omega⟩
      rcases List.mem_cons.1 hx with rfl | hx
      · exact ⟨128 + c % 64, by omega, by omega, by omega⟩
      · cases hx
  obtain ⟨n, rfl, h1, h2⟩ := key
  rw [Int.toNat_natCast, u8n n h2]
  exact h1
theorem count_enc (k : Nat) (hk : k < 128) : ∀ cs : List Nat, (∀ c ∈ cs, okC c) → (encL cs).count k.toUInt8 = cs.count k
  | [], _ => rfl
  | c :: cs, ho => by
    rw [encL, List.count_append, count_enc k hk cs (fun x hx => ho x (List.mem_cons_of_mem _ hx)), List.count_cons]
    have e : (encodeRune (c : Int)).count k.toUInt8 = if (c == k) = true then 1 else 0 := by
      by_cases h1 : c < 128
      · unfold encodeRune
        rw [encodeRuneZ_one (by omega) (by omega)]
        show [((c : Int).toNat.toUInt8)].count k.toUInt8 = _
        rw [Int.toNat_natCast, List.count_cons, List.count_nil, Nat.zero_add]
        by_cases hck : c = k
        · rw [hck, if_pos (beq_self_eq_true _), if_pos (beq_self_eq_true _)]
        · rw [if_neg (fun h => hck ?_), if_neg (fun h => hck (eq_of_beq h))]
          have h2 := congrArg UInt8.toNat (eq_of_beq h)
          rw [u8n c (by omega), u8n k (by omega)] at h2
          exact h2
      · rw [if_neg (fun h => by have := eq_of_beq h; omega), List.count_eq_zero]
        intro hm
        have := enc_high c (ho c List.mem_cons_self) (by omega) _ hm
        rw [u8n k (by omega)] at this
        omega
    rw [e]; omega
/-- What both say of a name. -/
def checkN (s : ByteArray) : Int := if formedB s = true then (if (runesOf s.data.toList).length > 40 then 2 else if (runesOf s.data.toList).count 46 ≥ 5 then 2 else 0) else 3
theorem formed_valid (s : ByteArray) (h : formedB s = true) : s.size ≠ 0 ∧ validD s.data.toList = true ∧ formG true (runesOf s.data.toList) = true := by
  unfold formedB at h
  rw [Bool.and_eq_true, Bool.and_eq_true] at h
  exact ⟨of_decide_eq_true h.1, h.2.1, h.2.2⟩
theorem check_name (s : ByteArray) (hs : s.size < 1000000) (k : Nat) : name_Check.f (k + 1) s = some (checkN s) := by
  unfold name_Check.f checkN
  rw [formed_q s hs, Option.bind_some]
  by_cases hf : formedB s = true
  · obtain ⟨h0, hv, hg⟩ := formed_valid s hf
    rw [if_pos hf, if_pos hf]
    unfold utf8_RuneCountInString.f strings_Count.f
    rw [if_pos (show s.size < 9223372036854775807 by omega), Option.bind_some, count_ev s hv]
    obtain ⟨e1, o1⟩ := valid_runesL _ hv
    have hc : Lib.countByte s.data.toList (([46] : List UInt8).getD 0 0) = (runesOf s.data.toList).count 46 := by
      have := count_enc 46 (by omega) _ o1
      rw [e1] at this
      exact this
    by_cases h1 : (runesOf s.data.toList).length > 40
    · rw [if_pos (show ((runesOf s.data.toList).length : Int) > 40 by omega), if_pos h1]
    rw [if_neg (show ¬ ((runesOf s.data.toList).length : Int) > 40 by omega), if_neg h1]
    show (some ((Lib.countByte s.data.toList (([46] : List UInt8).getD 0 0) : Nat) : Int)).bind _ = _
    rw [hc, Option.bind_some]
    by_cases h2 : (runesOf s.data.toList).count 46 ≥ 5
    · rw [if_pos (show (((runesOf s.data.toList).count 46 : Nat) : Int) ≥ 5 by omega), if_pos h2]
    · rw [if_neg (show ¬ (((runesOf s.data.toList).count 46 : Nat) : Int) ≥ 5 by omega), if_neg h2]
  · rw [if_neg hf, if_neg hf]
end Go.Proofs.YtnbbajiabbmdmaaGreatDoor.U8
namespace Go.Proofs.YtnbbajiabbmdmaaGreatDoor.U8
open Go.RowKit Go.Proofs.YtnbbajiabbmdmaaGreatDoor.A Go.Proofs.YtnbbajiabbmdmaaGreatDoorW.PrintWords Go.Proofs.YtnbbajiabbmdmaaGreatDoorW.PrintLast Go.Lib
set_option linter.unusedVariables false
set_option linter.unusedSimpArgs false
def simpleB (s : ByteArray) : Bool := decide (checkN s = 0) && decide ((runesOf s.data.toList).count 46 = 0)
theorem check0 (s : ByteArray) (h : checkN s = 0) : formedB s = true := by
  unfold checkN at h
  by_cases hf : formedB s = true
  · exact hf
  · rw [if_neg hf] at h; omega
theorem simple_q (s : ByteArray) (hs : s.size < 1000000) (k : Nat) : schema_simple.f (k + 1) s = some (simpleB s) := by
  unfold schema_simple.f name_Parts.f simpleB
  rw [check_name s hs, Option.bind_some]
  by_cases h : checkN s = 0
  · obtain ⟨h0, hv, hg⟩ := formed_valid s (check0 s h)
    obtain ⟨e1, o1⟩ := valid_runesL _ hv
    rw [if_pos h, Option.bind_some, if_pos h, decide_eq_true h, Bool.true_and]
    unfold strings_Split.f
    rw [if_pos (show s.size < 4294967281 by omega), if_pos (by decide), Option.bind_some, Option.bind_some]
    have hl := Lib.splitB_all (⟨#[46]⟩ : ByteArray) (by decide) 0 (Lib.countB s ⟨#[46]⟩) s rfl
    have hc : Lib.countB s ⟨#[46]⟩ = (runesOf s.data.toList).count 46 := by
      have h1 := count_enc 46 (by omega) _ o1
      rw [e1] at h1
      exact (Lib.count_one 46 s.data.toList).trans h1
    rw [hl, hc]
    by_cases hz : (runesOf s.data.toList).count 46 = 0
    · rw [decide_eq_true hz, hz]; rfl
    · rw [decide_eq_false hz]
      refine congrArg some (beq_eq_false_iff_ne.2 ?_)
      omega
  · rw [if_neg h, decide_eq_false h, Bool.false_and]
end Go.Proofs.YtnbbajiabbmdmaaGreatDoor.U8
namespace Go.Proofs.YtnbbajiabbmdmaaGreatDoor.U8
open Go.RowKit Go.Proofs.YtnbbajiabbmdmaaGreatDoor.A Go.Proofs.YtnbbajiabbmdmaaGreatDoorW.PrintWords Go.Proofs.YtnbbajiabbmdmaaGreatDoorW.PrintLast Go.Lib
set_option linter.unusedVariables false
set_option linter.unusedSimpArgs false
def fieldB (s : ByteArray) (n : Int) : Bool := simpleB s && (decide (1 ≤ n) && decide (n ≤ 4))
theorem field_q (s : ByteArray) (n : Int) (m : Bool) (hs : s.size < 1000000) (k : Nat) : schema_field.f (k + 1) s n m = some (fieldB s n) := by
  unfold schema_field.f fieldB
  rw [simple_q s hs, Option.bind_some]
  by_cases h : simpleB s = true
  · rw [if_pos h, h, Bool.true_and]
    unfold schema_word.f
    rw [Option.bind_some]
    by_cases h1 : n = 1
    · subst h1; decide +kernel
    by_cases h2 : n = 2
    · subst h2; decide +kernel
    by_cases h3 : n = 3
    · subst h3; decide +kernel
    by_cases h4 : n = 4
    · subst h4; decide +kernel
    rw [if_neg h1, if_neg h2, if_neg h3, if_neg h4]
    have e : (decide (1 ≤ n) && decide (n ≤ 4)) = false := by
      by_cases h5 : 1 ≤ n
      · rw [decide_eq_false (show ¬ n ≤ 4 by omega), Bool.and_false]
      · rw [decide_eq_false h5, Bool.false_and]
    rw [e]; decide +kernel
  · rw [if_neg h, Bool.eq_false_iff.2 h, Bool.false_and]
end Go.Proofs.YtnbbajiabbmdmaaGreatDoor.U8
namespace Go.Proofs.YtnbbajiabbmdmaaGreatDoor.U8
open Go.RowKit Go.Proofs.YtnbbajiabbmdmaaGreatDoor.A Go.Proofs.YtnbbajiabbmdmaaGreatDoorW.PrintWords Go.Proofs.YtnbbajiabbmdmaaGreatDoorW.PrintLast Go.Lib
set_option linter.unusedVariables false
set_option linter.unusedSimpArgs false
/-- Each as it may be, each ahead of the next one. -/
def ordB {α : Type} (P : α → Bool) (R : α → α → Bool) : Option α → List α → Bool
  | _, [] => true
  | none, x :: xs => P x && ordB P R (some x) xs
  | some y, x :: xs => P x && (R y x && ordB P R (some x) xs)
def lastO {α : Type} (pre : List α) : Option α := pre.getLast?
theorem lastO_nil {α : Type} : lastO ([] : List α) = none := rfl
theorem lastO_snoc {α : Type} (q : List α) (y : α) : lastO (q ++ [y]) = some y := by unfold lastO; simp
theorem snoc_cases {α : Type} (pre : List α) : pre = [] ∨ ∃ q y, pre = q ++ [y] := by
  rcases List.eq_nil_or_concat pre with h | ⟨q, y, h⟩
  · exact .inl h
  · exact .inr ⟨q, y, by rw [h, List.concat_eq_append]⟩
theorem dec_le (n m : Nat) : (decide ((n : Int) ≤ (m : Int))) = decide (n ≤ m) := by
  by_cases h : n ≤ m
  · rw [decide_eq_true h, decide_eq_true (by omega)]
  · rw [decide_eq_false h, decide_eq_false (by omega)]
abbrev Fld := S62
abbrev FldR := S72
def fieldX (x : Fld) : Bool := fieldB x.f0 x.f1
def ltX (x y : Fld) : Bool := decide (cmpB x.f0 y.f0 < 0)
def checkF (l : List Fld) : Bool := ordB fieldX ltX none l && decide (l.length ≤ 24)
theorem simple_valid (s : ByteArray) (h : simpleB s = true) : validD s.data.toList = true := by
  unfold simpleB at h
  rw [Bool.and_eq_true, decide_eq_true_eq] at h
  exact (formed_valid s (check0 s h.1)).2.1
theorem fieldB_valid (s : ByteArray) (n : Int) (h : fieldB s n = true) : validD s.data.toList = true := by
  unfold fieldB at h
  rw [Bool.and_eq_true] at h
  exact simple_valid _ h.1
theorem fieldX_valid (x : Fld) (h : fieldX x = true) : validD x.f0.data.toList = true := fieldB_valid x.f0 x.f1 h
theorem field_ev (s : ByteArray) (n : Int) (m : Bool) (hs : s.size < 1000000) : Evn (fun k => schema_field.f k s n m) (fieldB s n) := Evn.of1 (fun k => field_q s n m hs k)
theorem cmp_ev (a b : ByteArray) (ha : a.size < 20000) (hb : b.size < 20000) (va : validD a.data.toList = true) (vb : validD b.data.toList = true) : Evn (fun k => name_Compare.f k a b) (cmpB a b) := Evn.of _ (fun k hk => compare_q a b ha hb va vb k hk)
theorem schemacheck_l0 (l : List Fld) (hs : ∀ x ∈ l, x.f0.size < 20000) (hl : l.length < 100000) :
    ∀ post pre, l = pre ++ post → (∀ y, lastO pre = some y → fieldX y = true) → Evn (fun k => schema_Check.l0 k l l (l.length : Int) (pre.length : Int)) (ordB fieldX ltX (lastO pre) post && decide (l.length ≤ 24)) := by
  refine Evn.loop (g := fun k i => schema_Check.l0 k l l (l.length : Int) i) l (by omega) (fun pre => ∀ y, lastO pre = some y → fieldX y = true) (fun pre post => ordB fieldX ltX (lastO pre) post && decide (l.length ≤ 24)) ?_ ?_
  · intro hi hn
    refine Evn.step (fun k => schema_Check.l0.eq_2 ..) (Evn.neg hn (Evn.con ?_))
    rw [show (24 : Int) = ((24 : Nat) : Int) from rfl, dec_le]
    rcases snoc_cases l with rfl | ⟨q, y, rfl⟩
    · rfl
    · rw [lastO_snoc]; rfl
  · intro pre x post e hi hlt h0 hw hget hmem ih
    have hrd : rd_T62 l (pre.length : Int) = x := hget _
    have hsx := hs x hmem
    refine Evn.step (fun k => schema_Check.l0.eq_2 ..) (Evn.pos hlt (Evn.pos h0 (Evn.pos hlt ?_)))
    rw [hrd, hw]
    have ih' : fieldX x = true → _ := fun hx => ih (by intro y hy; rw [lastO_snoc] at hy; obtain rfl := Option.some.inj hy; exact hx)
    rw [lastO_snoc] at ih'
    rcases snoc_cases pre with rfl | ⟨q, y, rfl⟩
    · rw [lastO_nil]
      show Evn _ (((fieldB x.f0 x.f1) && ordB fieldX ltX (some x) post) && _)
      refine Evn.bind (field_ev x.f0 x.f1 x.f2 (by omega)) ?_
      by_cases h0 : fieldB x.f0 x.f1 = true
      case neg => exact Evn.val (by simp [h0]) (Evn.neg h0 (Evn.ret false))
      refine Evn.pos h0 ?_
      have hx : fieldX x = true := by show (fieldB x.f0 x.f1) = true; simp [h0]
      rw [h0]
      show Evn _ (ordB fieldX ltX (some x) post && _)
      exact Evn.neg (by decide) (ih' hx)
    · rw [lastO_snoc]
      show Evn _ (((fieldB x.f0 x.f1) && (ltX y x && ordB fieldX ltX (some x) post)) && _)
      refine Evn.bind (field_ev x.f0 x.f1 x.f2 (by omega)) ?_
      by_cases h0 : fieldB x.f0 x.f1 = true
      case neg => exact Evn.val (by simp [h0]) (Evn.neg h0 (Evn.ret false))
      refine Evn.pos h0 ?_
      have hx : fieldX x = true := by show (fieldB x.f0 x.f1) = true; simp [h0]
      rw [h0]
      show Evn _ ((ltX y x && ordB fieldX ltX (some x) post) && _)
      have hy := hi y (lastO_snoc q y)
      have hrq : rd_T62 l (q.length : Int) = y := by rw [e]; exact getDq q y _ _
      have hql : (q.length : Int) < (l.length : Int) := by rw [List.length_append] at hlt; omega
      have hym : y ∈ l := by rw [e]; simp
      rw [w1m q y (by omega), hrq]
      refine Evn.pos (by rw [List.length_append]; show ((q.length + 1 : Nat) : Int) > 0; omega) (Evn.pos (Int.natCast_nonneg _) (Evn.pos hql (Evn.bind (cmp_ev _ _ (hs y hym) (hs x hmem) (fieldX_valid y hy) (fieldX_valid x hx)) ?_)))
      unfold ltX
      by_cases hc : cmpB y.f0 x.f0 < 0
      · rw [decide_eq_true hc, Bool.true_and]
        exact Evn.neg (by omega) (ih' hx)
      · rw [decide_eq_false hc]
        exact Evn.pos (by omega) (Evn.ret _)
theorem schemacheck_ev (l : List Fld) (hs : ∀ x ∈ l, x.f0.size < 20000) (hl : l.length < 100000) : Evn (fun k => schema_Check.f k l) (ordB fieldX ltX none l && decide (l.length ≤ 24)) :=
  schemacheck_l0 l hs hl l [] rfl (fun y h => by cases h)
def toR (x : Fld) : FldR := ⟨x.f0, x.f1, x.f2⟩
theorem check_q (l : List Fld) (hs : ∀ x ∈ l, x.f0.size < 20000) (hl : l.length < 100000) : Evn (fun k => schema_Check.f k l) (checkF l) := schemacheck_ev l hs hl
end Go.Proofs.YtnbbajiabbmdmaaGreatDoor.U8
namespace Go.Proofs.YtnbbajiabbmdmaaGreatDoor.U8
open Go.RowKit Go.Proofs.YtnbbajiabbmdmaaGreatDoor.A Go.Proofs.YtnbbajiabbmdmaaGreatDoorW.PrintWords Go.Proofs.YtnbbajiabbmdmaaGreatDoorW.PrintLast Go.Lib
set_option linter.unusedVariables false
set_option linter.unusedSimpArgs false
abbrev Att := S44
abbrev AttR := S79
/-- May a value be? -/
def valB (n i : Int) (s : ByteArray) : Bool := (value_Check.f n i s).getD false
theorem val_total (a0 a1 : Int) (a2 : ByteArray) : ∃ b, value_Check.f a0 a1 a2 = some b := by
  unfold value_Check.f
  by_cases hs : (a2.size : Int) ≤ 200
  · have : utf8_ValidString.f a2 = some (Go.Lib.validD a2.data.toList) := by
      unfold utf8_ValidString.f; rw [if_pos (by omega)]
    rw [this]
    simp only [Option.bind_some]
    repeat' split
    all_goals exact ⟨_, rfl⟩
  · simp only [hs, if_false]
    repeat' split
    all_goals exact ⟨_, rfl⟩
theorem val_q (n i : Int) (s : ByteArray) : value_Check.f n i s = some (valB n i s) := by
  obtain ⟨b, h⟩ := val_total n i s
  unfold valB
  rw [h]; rfl
def attX (x : Att) : Bool := simpleB x.f0 && valB x.f1.f0 x.f1.f1 x.f1.f2
def ltA (x y : Att) : Bool := decide (cmpB x.f0 y.f0 < 0)
def checkA (l : List Att) : Bool := ordB attX ltA none l && decide (l.length ≤ 24)
theorem attX_valid (x : Att) (h : attX x = true) : validD x.f0.data.toList = true := by
  unfold attX at h
  rw [Bool.and_eq_true] at h
  exact simple_valid _ h.1
theorem simple_ev (s : ByteArray) (hs : s.size < 1000000) : Evn (fun k => schema_simple.f k s) (simpleB s) := Evn.of1 (fun k => simple_q s hs k)
theorem schemaattrs_l0 (l : List Att) (hs : ∀ x ∈ l, x.f0.size < 20000) (hl : l.length < 100000) :
    ∀ post pre, l = pre ++ post → (∀ y, lastO pre = some y → attX y = true) → Evn (fun k => schema_Attrs.l0 k l l (l.length : Int) (pre.length : Int)) (ordB attX ltA (lastO pre) post && decide (l.length ≤ 24)) := by
  refine Evn.loop (g := fun k i => schema_Attrs.l0 k l l (l.length : Int) i) l (by omega) (fun pre => ∀ y, lastO pre = some y → attX y = true) (fun pre post => ordB attX ltA (lastO pre) post && decide (l.length ≤ 24)) ?_ ?_
  · intro hi hn
    refine Evn.step (fun k => schema_Attrs.l0.eq_2 ..) (Evn.neg hn (Evn.con ?_))
    rw [show (24 : Int) = ((24 : Nat) : Int) from rfl, dec_le]
    rcases snoc_cases l with rfl | ⟨q, y, rfl⟩
    · rfl
    · rw [lastO_snoc]; rfl
  · intro pre x post e hi hlt h0 hw hget hmem ih
    have hrd : rd_T44 l (pre.length : Int) = x := hget _
    have hsx := hs x hmem
    refine Evn.step (fun k => schema_Attrs.l0.eq_2 ..) (Evn.pos hlt (Evn.pos h0 (Evn.pos hlt ?_)))
    rw [hrd, hw]
    have ih' : attX x = true → _ := fun hx => ih (by intro y hy; rw [lastO_snoc] at hy; obtain rfl := Option.some.inj hy; exact hx)
    rw [lastO_snoc] at ih'
    rcases snoc_cases pre with rfl | ⟨q, y, rfl⟩
    · rw [lastO_nil]
      show Evn _ (((simpleB x.f0 && valB x.f1.f0 x.f1.f1 x.f1.f2) && ordB attX ltA (some x) post) && _)
      refine Evn.bind (simple_ev x.f0 (by omega)) ?_
      by_cases h0 : simpleB x.f0 = true
      case neg => exact Evn.val (by simp [h0]) (Evn.neg h0 (Evn.ret false))
      refine Evn.pos h0 ?_
      refine Evn.bind (Evn.con (val_q x.f1.f0 x.f1.f1 x.f1.f2)) ?_
      by_cases h1 : valB x.f1.f0 x.f1.f1 x.f1.f2 = true
      case neg => exact Evn.val (by simp [h1]) (Evn.neg h1 (Evn.ret false))
      refine Evn.pos h1 ?_
      have hx : attX x = true := by show (simpleB x.f0 && valB x.f1.f0 x.f1.f1 x.f1.f2) = true; simp [h0, h1]
      rw [h0, h1]
      show Evn _ (ordB attX ltA (some x) post && _)
      exact Evn.neg (by decide) (ih' hx)
    · rw [lastO_snoc]
      show Evn _ (((simpleB x.f0 && valB x.f1.f0 x.f1.f1 x.f1.f2) && (ltA y x && ordB attX ltA (some x) post)) && _)
      refine Evn.bind (simple_ev x.f0 (by omega)) ?_
      by_cases h0 : simpleB x.f0 = true
      case neg => exact Evn.val (by simp [h0]) (Evn.neg h0 (Evn.ret false))
      refine Evn.pos h0 ?_
      refine Evn.bind (Evn.con (val_q x.f1.f0 x.f1.f1 x.f1.f2)) ?_
      by_cases h1 : valB x.f1.f0 x.f1.f1 x.f1.f2 = true
      case neg => exact Evn.val (by simp [h1]) (Evn.neg h1 (Evn.ret false))
      refine Evn.pos h1 ?_
      have hx : attX x = true := by show (simpleB x.f0 && valB x.f1.f0 x.f1.f1 x.f1.f2) = true; simp [h0, h1]
      rw [h0, h1]
      show Evn _ ((ltA y x && ordB attX ltA (some x) post) && _)
      have hy := hi y (lastO_snoc q y)
      have hrq : rd_T44 l (q.length : Int) = y := by rw [e]; exact getDq q y _ _
      have hql : (q.length : Int) < (l.length : Int) := by rw [List.length_append] at hlt; omega
      have hym : y ∈ l := by rw [e]; simp
      rw [w1m q y (by omega), hrq]
      refine Evn.pos (by rw [List.length_append]; show ((q.length + 1 : Nat) : Int) > 0; omega) (Evn.pos (Int.natCast_nonneg _) (Evn.pos hql (Evn.bind (cmp_ev _ _ (hs y hym) (hs x hmem) (attX_valid y hy) (attX_valid x hx)) ?_)))
      unfold ltA
      by_cases hc : cmpB y.f0 x.f0 < 0
      · rw [decide_eq_true hc, Bool.true_and]
        exact Evn.neg (by omega) (ih' hx)
      · rw [decide_eq_false hc]
        exact Evn.pos (by omega) (Evn.ret _)
theorem schemaattrs_ev (l : List Att) (hs : ∀ x ∈ l, x.f0.size < 20000) (hl : l.length < 100000) : Evn (fun k => schema_Attrs.f k l) (ordB attX ltA none l && decide (l.length ≤ 24)) :=
  schemaattrs_l0 l hs hl l [] rfl (fun y h => by cases h)
def toAR (x : Att) : AttR := ⟨x.f0, ⟨x.f1.f0, x.f1.f1, x.f1.f2⟩⟩
theorem attrs_q (l : List Att) (hs : ∀ x ∈ l, x.f0.size < 20000) (hl : l.length < 100000) : Evn (fun k => schema_Attrs.f k l) (checkA l) := schemaattrs_ev l hs hl
end Go.Proofs.YtnbbajiabbmdmaaGreatDoor.U8
namespace Go.Proofs.YtnbbajiabbmdmaaGreatDoor.U8
open Go.RowKit Go.Proofs.YtnbbajiabbmdmaaGreatDoor.A Go.Proofs.YtnbbajiabbmdmaaGreatDoorW.PrintWords Go.Proofs.YtnbbajiabbmdmaaGreatDoorW.PrintLast Go.Lib
set_option linter.unusedVariables false
set_option linter.unusedSimpArgs false
/-- Not more than statements go through. -/
def fewS {α : Type} (P : α → Bool) : Nat → List α → Bool
  | _, [] => true
  | i, x :: xs => if i ≤ 40 then (if P x = true then fewS P (i + 1) xs else false) else false
theorem fewS_true {α : Type} (P : α → Bool) : ∀ (l : List α) (i : Nat), fewS P i l = true → (l = [] ∨ i + l.length ≤ 41) ∧ ∀ x ∈ l, P x = true
  | [], i, h => ⟨.inl rfl, fun x hx => by cases hx⟩
  | x :: xs, i, h => by
    rw [fewS] at h
    by_cases h1 : i ≤ 40
    · rw [if_pos h1] at h
      by_cases h2 : P x = true
      · rw [if_pos h2] at h
        obtain ⟨h3, h4⟩ := fewS_true P xs (i + 1) h
        refine ⟨.inr ?_, fun y hy => ?_⟩
        · rw [List.length_cons]
          rcases h3 with rfl | h3
          · show i + (0 + 1) ≤ 41; omega
          · omega
        · rcases List.mem_cons.1 hy with rfl | hy
          · exact h2
          · exact h4 y hy
      · rw [if_neg h2] at h; cases h
    · rw [if_neg h1] at h; cases h
def fewF (l : List Fld) : Bool := fewS (fun x => decide (x.f0.size ≤ 200)) 0 l
def fewA (l : List Att) : Bool := fewS (fun x => decide (x.f0.size ≤ 200) && decide (x.f1.f2.size ≤ 500)) 0 l
theorem fewF_ev (l : List Fld) : Evn (fun k => caduceuslaw04_Few.f k l) (fewF l) := by
  refine Evn.loopS (g := fun k i => caduceuslaw04_Few.l0 k l i) l (fun _ => True) (fun pre post => fewS (fun x => decide (x.f0.size ≤ 200)) pre.length post) ?_ ?_ l [] rfl trivial
  · intro _ hn
    exact Evn.step (fun k => caduceuslaw04_Few.l0.eq_2 ..) (Evn.neg hn (Evn.ret _))
  · intro pre x post e _ hlt h0 hw hget hmem ih
    have hrd : rd_T62 l (pre.length : Int) = x := hget _
    refine Evn.step (fun k => caduceuslaw04_Few.l0.eq_2 ..) (Evn.pos hlt ?_)
    rw [hrd, fewS]
    by_cases h1 : pre.length ≤ 40
    · rw [if_pos h1, hw (by omega)]
      refine Evn.neg (by omega) (Evn.pos h0 ?_)
      by_cases h2 : x.f0.size ≤ 200
      · rw [if_pos (decide_eq_true h2)]
        refine Evn.neg (by omega) ?_
        exact Evn.val (by rw [snocLen]) (ih trivial)
      · rw [if_neg (by rw [decide_eq_false h2]; decide)]
        exact Evn.pos (by omega) (Evn.ret _)
    · rw [if_neg h1]
      exact Evn.pos (by omega) (Evn.ret _)
theorem fewA_ev (l : List Att) : Evn (fun k => caduceuslaw04_FewAttrs.f k l) (fewA l) := by
  refine Evn.loopS (g := fun k i => caduceuslaw04_FewAttrs.l0 k l i) l (fun _ => True) (fun pre post => fewS (fun x => decide (x.f0.size ≤ 200) && decide (x.f1.f2.size ≤ 500)) pre.length post) ?_ ?_ l [] rfl trivial
  · intro _ hn
    exact Evn.step (fun k => caduceuslaw04_FewAttrs.l0.eq_2 ..) (Evn.neg hn (Evn.ret _))
  · intro pre x post e _ hlt h0 hw hget hmem ih
    have hrd : rd_T44 l (pre.length : Int) = x := hget _
    refine Evn.step (fun k => caduceuslaw04_FewAttrs.l0.eq_2 ..) (Evn.pos hlt ?_)
    rw [hrd, fewS]
    by_cases h1 : pre.length ≤ 40
    · rw [if_pos h1, hw (by omega)]
      refine Evn.neg (by omega) (Evn.pos h0 ?_)
      by_cases h2 : x.f0.size ≤ 200
      · refine Evn.neg (by omega) ?_
        by_cases h3 : x.f1.f2.size ≤ 500
        · rw [if_pos (by rw [decide_eq_true h2, decide_eq_true h3]; rfl)]
          refine Evn.neg (by omega) ?_
          exact Evn.val (by rw [snocLen]) (ih trivial)
        · rw [if_neg (by rw [decide_eq_false h3, Bool.and_false]; decide)]
          exact Evn.pos (by omega) (Evn.ret _)
      · rw [if_neg (by rw [decide_eq_false h2, Bool.false_and]; decide)]
        exact Evn.pos (by omega) (Evn.ret _)
    · rw [if_neg h1]
      exact Evn.pos (by omega) (Evn.ret _)
theorem fewF_true (l : List Fld) (h : fewF l = true) : l.length ≤ 41 ∧ ∀ x ∈ l, x.f0.size ≤ 200 := by
  obtain ⟨h1, h2⟩ := fewS_true _ l 0 h
  refine ⟨?_, fun x hx => of_decide_eq_true (h2 x hx)⟩
  rcases h1 with rfl | h1
  · exact Nat.zero_le _
  · omega
theorem fewA_true (l : List Att) (h : fewA l = true) : l.length ≤ 41 ∧ ∀ x ∈ l, x.f0.size ≤ 200 ∧ x.f1.f2.size ≤ 500 := by
  obtain ⟨h1, h2⟩ := fewS_true _ l 0 h
  refine ⟨?_, fun x hx => ?_⟩
  · rcases h1 with rfl | h1
    · exact Nat.zero_le _
    · omega
  · have := h2 x hx
    rw [Bool.and_eq_true, decide_eq_true_eq, decide_eq_true_eq] at this
    exact this
theorem refsF_ev (l : List Fld) (hl : l.length < 1000000) : Evn (fun k => caduceuslaw04_Refs.f k l) (l.map toR) := by
  have h : ∀ (post pre : List Fld), l = pre ++ post → True → Evn (fun k => caduceuslaw04_Refs.l0 k l (pre.map toR) (pre.length : Int)) (l.map toR) := by
    intro post
    induction post with
    | nil =>
      intro pre e _
      rw [List.append_nil] at e
      subst e
      exact Evn.step (fun k => caduceuslaw04_Refs.l0.eq_2 ..) (Evn.neg (by omega) (Evn.ret _))
    | cons x post ih =>
      intro pre e _
      have hlt : (pre.length : Int) < (l.length : Int) := by rw [e]; exact ltp pre x post
      have hrd : rd_T62 l (pre.length : Int) = x := by rw [e]; exact getDp pre x post _
      have := ih (pre ++ [x]) (by rw [e, List.append_assoc]; rfl) trivial
      rw [List.map_append] at this
      refine Evn.step (fun k => caduceuslaw04_Refs.l0.eq_2 ..) (Evn.pos hlt (Evn.pos (Int.natCast_nonneg _) (Evn.pos (by rw [List.length_map]; omega) ?_)))
      rw [hrd, w1p pre x (by omega)]
      exact this
  exact h l [] rfl trivial
theorem refsA_ev (l : List Att) (hl : l.length < 1000000) : Evn (fun k => caduceuslaw04_Attrs.f k l) (l.map toAR) := by
  have h : ∀ (post pre : List Att), l = pre ++ post → True → Evn (fun k => caduceuslaw04_Attrs.l0 k l (pre.map toAR) (pre.length : Int)) (l.map toAR) := by
    intro post
    induction post with
    | nil =>
      intro pre e _
      rw [List.append_nil] at e
      subst e
      exact Evn.step (fun k => caduceuslaw04_Attrs.l0.eq_2 ..) (Evn.neg (by omega) (Evn.ret _))
    | cons x post ih =>
      intro pre e _
      have hlt : (pre.length : Int) < (l.length : Int) := by rw [e]; exact ltp pre x post
      have hrd : rd_T44 l (pre.length : Int) = x := by rw [e]; exact getDp pre x post _
      have := ih (pre ++ [x]) (by rw [e, List.append_assoc]; rfl) trivial
      rw [List.map_append] at this
      refine Evn.step (fun k => caduceuslaw04_Attrs.l0.eq_2 ..) (Evn.pos hlt (Evn.pos (Int.natCast_nonneg _) (Evn.pos (by rw [List.length_map]; omega) ?_)))
      rw [hrd, w1p pre x (by omega)]
      exact this
  exact h l [] rfl trivial
end Go.Proofs.YtnbbajiabbmdmaaGreatDoor.U8
namespace Go.Proofs.YtnbbajiabbmdmaaGreatDoor.U8
open Go.RowKit Go.Proofs.YtnbbajiabbmdmaaGreatDoor.A Go.Proofs.YtnbbajiabbmdmaaGreatDoorW.PrintWords Go.Proofs.YtnbbajiabbmdmaaGreatDoorW.PrintLast Go.Lib
set_option linter.unusedVariables false
set_option linter.unusedSimpArgs false
/-- A text out of its bytes. -/
abbrev bl (l : List UInt8) : ByteArray := ⟨l.toArray⟩
theorem bl_size (l : List UInt8) : (bl l).size = l.length := rfl
theorem bl_toList (l : List UInt8) : (bl l).toList = l := ByteArray.toList_eq _
theorem bl_ext {a b : ByteArray} (h : a.data.toList = b.data.toList) : a = b := ByteArray.ext (Array.ext' h)
theorem bl_eta (s : ByteArray) : bl s.data.toList = s := bl_ext rfl
theorem bl_app (a b : List UInt8) : bl a ++ bl b = bl (a ++ b) := bl_ext (by rw [ByteArray.data_append, Array.toList_append])
theorem bl_appl (a : List UInt8) (s : ByteArray) : bl a ++ s = bl (a ++ s.data.toList) := bl_ext (by rw [ByteArray.data_append, Array.toList_append])
theorem bl_sub (l : List UInt8) (i j : Nat) : (bl l).extract i j = bl ((l.drop i).take (j - i)) := bl_ext (Lib.extract_data _ _ _)
end Go.Proofs.YtnbbajiabbmdmaaGreatDoor.U8
namespace Go.Proofs.YtnbbajiabbmdmaaGreatDoor.U8
open Go.RowKit Go.Proofs.YtnbbajiabbmdmaaGreatDoor.A Go.Proofs.YtnbbajiabbmdmaaGreatDoorW.PrintWords Go.Proofs.YtnbbajiabbmdmaaGreatDoorW.PrintLast Go.Lib
set_option linter.unusedVariables false
set_option linter.unusedSimpArgs false
/-- The word of a kind, a field's words, a schema's line. -/
def wordL (n : Int) : List UInt8 := if n = 1 then [105, 110, 116] else if n = 2 then [116, 101, 120, 116] else if n = 3 then [98, 111, 111, 108] else if n = 4 then [98, 121, 116, 101, 115] else []
def lineL (x : Fld) : List UInt8 := ((x.f0.data.toList ++ [32]) ++ wordL x.f1) ++ (if x.f2 = true then [33] else [])
def schemaL (l : List Fld) : List UInt8 := Lib.join (l.map lineL) [44, 32]
def showB (l : List Fld) : ByteArray := if checkF l = true then (if l.length = 0 then bl [45] else bl (schemaL l)) else bl []
theorem word_q (n : Int) : schema_word.f n = some (bl (wordL n)) := by
  unfold schema_word.f wordL
  by_cases h1 : n = 1
  · rw [if_pos h1, if_pos h1]
  by_cases h2 : n = 2
  · rw [if_neg h1, if_pos h2, if_neg h1, if_pos h2]
  by_cases h3 : n = 3
  · rw [if_neg h1, if_neg h2, if_pos h3, if_neg h1, if_neg h2, if_pos h3]
  by_cases h4 : n = 4
  · rw [if_neg h1, if_neg h2, if_neg h3, if_pos h4, if_neg h1, if_neg h2, if_neg h3, if_pos h4]
  · rw [if_neg h1, if_neg h2, if_neg h3, if_neg h4, if_neg h1, if_neg h2, if_neg h3, if_neg h4]
theorem word_len (n : Int) : (wordL n).length ≤ 5 := by
  unfold wordL
  split
  · decide
  split
  · decide
  split
  · decide
  split
  · decide
  · decide
theorem line_len (x : Fld) : (lineL x).length ≤ x.f0.size + 7 := by
  unfold lineL
  have := word_len x.f1
  rw [List.length_append, List.length_append, List.length_append, ← size_len]
  split
  · simp only [List.length_cons, List.length_nil]; omega
  · simp only [List.length_cons, List.length_nil]; omega
theorem line_q (x : Fld) (hs : x.f0.size < 20000) : schema_line.f x.f0 x.f1 x.f2 = some (bl (lineL x)) := by
  have hw := word_len x.f1
  unfold schema_line.f
  rw [word_q, if_pos (show x.f0.size + 1 ≤ 9223372036854775807 by omega), Option.bind_some, show x.f0 ++ (⟨#[32]⟩ : ByteArray) = bl (x.f0.data.toList ++ [32]) from (congrArg (fun s => s ++ bl [32]) (bl_eta x.f0).symm).trans (bl_app _ _), bl_app]
  have hl : (x.f0.data.toList ++ [32]).length = x.f0.size + 1 := by rw [List.length_append, ← size_len]; rfl
  rw [if_pos (by rw [bl_size, bl_size]; omega)]
  unfold lineL
  by_cases h : x.f2 = true
  · rw [if_pos h, if_pos (by rw [bl_size, List.length_append]; omega), if_pos h, show (⟨#[33]⟩ : ByteArray) = bl [33] from rfl, bl_app]
  · rw [if_neg h, if_neg h, List.append_nil]
theorem joins_len (l : List Fld) (hs : ∀ x ∈ l, x.f0.size < 20000) : (schemaL l).length ≤ 20010 * l.length := by
  unfold schemaL
  cases l with
  | nil => exact Nat.le_refl _
  | cons x xs =>
    rw [List.map_cons, Lib.join_cons, List.length_append]
    have h1 := line_len x
    have h2 := hs x List.mem_cons_self
    have h3 : ∀ ys : List Fld, (∀ y ∈ ys, y.f0.size < 20000) → (Lib.joinTail [44, 32] (ys.map lineL)).length ≤ 20009 * ys.length := by
      intro ys
      induction ys with
      | nil => intro _; exact Nat.le_refl _
      | cons y ys ih =>
        intro hy
        have h5 := ih (fun z hz => hy z (List.mem_cons_of_mem _ hz))
        have h6 := line_len y
        have h7 := hy y List.mem_cons_self
        have e : Lib.joinTail [44, 32] ((y :: ys).map lineL) = ([44, 32] ++ lineL y) ++ Lib.joinTail [44, 32] (ys.map lineL) := rfl
        have e2 : ([44, 32] : List UInt8).length = 2 := rfl
        rw [e, List.length_append, List.length_append, List.length_cons (a := y), e2]
        omega
    have h4 := h3 xs (fun z hz => hs z (List.mem_cons_of_mem _ hz))
    rw [List.length_cons]
    omega
theorem schemaShow_q (l : List Fld) (hs : ∀ x ∈ l, x.f0.size < 20000) (hl : l.length < 100000) : Evn (fun k => schema_Show.f k l) (showB l) := by
  unfold showB
  refine Evn.bind (check_q l hs hl) ?_
  by_cases h : checkF l = true
  · rw [if_pos h]
    refine Evn.pos h ?_
    by_cases h0 : l.length = 0
    · rw [if_pos h0]
      exact Evn.pos (by omega) (Evn.ret _)
    · rw [if_neg h0]
      refine Evn.neg (by omega) ?_
      have key : ∀ (post pre : List Fld), l = pre ++ post → Evn (fun k => schema_Show.l0 k (pre.map (fun x => bl (lineL x))) l (l.length : Int) (pre.length : Int)) (bl (schemaL l)) := by
        intro post
        induction post with
        | nil =>
          intro pre e
          rw [List.append_nil] at e
          subst e
          refine Evn.step (fun k => schema_Show.l0.eq_2 ..) (Evn.neg (by omega) (Evn.bc (u := bl (schemaL l)) ?_ (Evn.ret _)))
          unfold strings_Join.f
          have hj := joins_len l hs
          have e2 : (l.map (fun x => bl (lineL x))).map (·.data.toList) = l.map lineL := by rw [List.map_map]; rfl
          rw [e2, List.length_map]
          exact if_pos ⟨by omega, by show (schemaL l).length ≤ _; omega⟩
        | cons x post ih =>
          intro pre e
          have hlt : (pre.length : Int) < (l.length : Int) := by rw [e]; exact ltp pre x post
          have hrd : rd_T62 l (pre.length : Int) = x := by rw [e]; exact getDp pre x post _
          have := ih (pre ++ [x]) (by rw [e, List.append_assoc]; rfl)
          rw [List.map_append] at this
          refine Evn.step (fun k => schema_Show.l0.eq_2 ..) (Evn.pos hlt (Evn.pos (Int.natCast_nonneg _) (Evn.pos hlt ?_)))
          rw [hrd, w1p pre x (by omega)]
          exact Evn.bc (line_q x (hs x (by rw [e]; simp))) (Evn.pos (by rw [List.length_map]; omega) this)
      exact key l [] rfl
  · rw [if_neg h]
    exact Evn.neg h (Evn.ret _)
theorem ordB_all {α : Type} (P : α → Bool) (R : α → α → Bool) : ∀ (l : List α) (o : Option α), ordB P R o l = true → ∀ x ∈ l, P x = true
  | [], _, _, x, hx => by cases hx
  | y :: l, none, h, x, hx => by
    have h : (P y && ordB P R (some y) l) = true := h
    rw [Bool.and_eq_true] at h
    rcases List.mem_cons.1 hx with rfl | hx
    · exact h.1
    · exact ordB_all P R l (some y) h.2 x hx
  | y :: l, some z, h, x, hx => by
    have h : (P y && (R z y && ordB P R (some y) l)) = true := h
    rw [Bool.and_eq_true, Bool.and_eq_true] at h
    rcases List.mem_cons.1 hx with rfl | hx
    · exact h.1
    · exact ordB_all P R l (some y) h.2.2 x hx
theorem checkF_all (l : List Fld) (h : checkF l = true) : (∀ x ∈ l, simpleB x.f0 = true ∧ 1 ≤ x.f1 ∧ x.f1 ≤ 4) ∧ l.length ≤ 24 := by
  unfold checkF at h
  rw [Bool.and_eq_true, decide_eq_true_eq] at h
  refine ⟨fun x hx => ?_, h.2⟩
  have h1 := ordB_all _ _ l none h.1 x hx
  unfold fieldX fieldB at h1
  rw [Bool.and_eq_true, Bool.and_eq_true, decide_eq_true_eq, decide_eq_true_eq] at h1
  exact h1
end Go.Proofs.YtnbbajiabbmdmaaGreatDoor.U8
namespace Go.Proofs.YtnbbajiabbmdmaaGreatDoor.U8
open Go.RowKit Go.Proofs.YtnbbajiabbmdmaaGreatDoor.A Go.Proofs.YtnbbajiabbmdmaaGreatDoorW.PrintWords Go.Proofs.YtnbbajiabbmdmaaGreatDoorW.PrintLast Go.Lib
set_option linter.unusedVariables false
set_option linter.unusedSimpArgs false
/-- Which kind a word says. -/
def kindFrom (w : List UInt8) : Nat → Nat → Int
  | _, 0 => 0
  | i, m + 1 => if w ≠ [] ∧ wordL (i : Int) = w then (i : Int) else kindFrom w (i + 1) m
def kindL (w : List UInt8) : Int := kindFrom w 0 5
/-- A field off its words. -/
def nameT (t : List UInt8) : List UInt8 := t.takeWhile (· != 32)
def restT (t : List UInt8) : List UInt8 := (t.dropWhile (· != 32)).drop 1
def mustT (w : List UInt8) : Bool := w.getLast? == some 33
def kindT (w : List UInt8) : List UInt8 := if mustT w = true then w.dropLast else w
def fieldT (t : List UInt8) : Fld := ⟨bl (nameT t), kindL (kindT (restT t)), mustT (restT t)⟩
theorem kind_l0 (w : List UInt8) : ∀ (m i : Nat), i + m = 5 → Evn (fun k => schema_kind.l0 k (bl w) (i : Int)) (kindFrom w i m)
  | 0, i, h => Evn.step (fun k => schema_kind.l0.eq_2 ..) (Evn.neg (by omega) (Evn.ret _))
  | m + 1, i, h => by
    have ih := kind_l0 w m (i + 1) (by omega)
    have hw : wrap64 ((i : Int) + 1) = ((i + 1 : Nat) : Int) := by unfold wrap64; omega
    refine Evn.step (fun k => schema_kind.l0.eq_2 ..) (Evn.pos (by omega) ?_)
    rw [hw, kindFrom, bl_toList]
    by_cases h0 : w = []
    · rw [if_neg (fun h => h.1 h0)]
      exact Evn.pos h0 ih
    · refine Evn.neg h0 (Evn.bc (word_q _) ?_)
      rw [bl_toList]
      by_cases h1 : wordL (i : Int) = w
      · rw [if_pos ⟨h0, h1⟩]
        exact Evn.pos h1 (Evn.ret _)
      · rw [if_neg (fun h => h1 h.2)]
        exact Evn.neg h1 ih
theorem kind_q (w : List UInt8) : Evn (fun k => schema_kind.f k (bl w)) (kindL w) := kind_l0 w 5 0 rfl
theorem kind_word (n : Int) (h1 : 1 ≤ n) (h4 : n ≤ 4) : kindL (wordL n) = n := by
  have : n = 1 ∨ n = 2 ∨ n = 3 ∨ n = 4 := by omega
  rcases this with rfl | rfl | rfl | rfl <;> decide
theorem index32 : ∀ t : List UInt8, Lib.index t [32] = if 32 ∈ t then ((nameT t).length : Int) else -1
  | [] => rfl
  | c :: t => by
    have ih := index32 t
    rw [Lib.index]
    by_cases h : c = 32
    · subst h
      rw [if_pos (by simp), if_pos List.mem_cons_self]
      rfl
    · have hb : (List.isPrefixOf [32] (c :: t)) = false := by
        simp only [List.isPrefixOf, Bool.and_eq_false_iff, beq_eq_false_iff_ne]
        exact .inl (fun e => h e.symm)
      have hn : nameT (c :: t) = c :: nameT t := by
        unfold nameT
        rw [List.takeWhile_cons, if_pos (by rw [bne_iff_ne]; exact h)]
      rw [hb, hn, if_neg (by decide), ih]
      by_cases hm : 32 ∈ t
      · rw [if_pos hm, if_pos (List.mem_cons_of_mem _ hm), if_neg (by rw [beq_iff_eq]; omega), List.length_cons]; omega
      · have hm2 : ¬ 32 ∈ c :: t := fun hh => by
          rcases List.mem_cons.1 hh with hh | hh
          · exact h hh.symm
          · exact hm hh
        rw [if_neg hm, if_neg hm2, if_pos (by decide)]
theorem name_split : ∀ t : List UInt8, 32 ∈ t → t.take (nameT t).length = nameT t ∧ t.drop ((nameT t).length + 1) = restT t
  | [], h => by cases h
  | c :: t, h => by
    unfold nameT restT
    by_cases hc : c = 32
    · subst hc
      rw [List.takeWhile_cons, if_neg (by decide), List.dropWhile_cons, if_neg (by decide)]
      exact ⟨rfl, rfl⟩
    · have hm : 32 ∈ t := by
        rcases List.mem_cons.1 h with h | h
        · exact absurd h.symm hc
        · exact h
      obtain ⟨h1, h2⟩ := name_split t hm
      unfold nameT at h1 h2
      unfold restT at h2
      rw [List.takeWhile_cons, if_pos (by rw [bne_iff_ne]; exact hc), List.dropWhile_cons, if_pos (by rw [bne_iff_ne]; exact hc), List.length_cons]
      exact ⟨by rw [List.take_succ_cons, h1], by rw [List.drop_succ_cons]; exact h2⟩
theorem name_none : ∀ t : List UInt8, 32 ∉ t → nameT t = t ∧ restT t = []
  | [], h => ⟨rfl, rfl⟩
  | c :: t, h => by
    have hc : ¬ c = 32 := fun e => h (by rw [e]; exact List.mem_cons_self)
    obtain ⟨h1, h2⟩ := name_none t (fun e => h (List.mem_cons_of_mem _ e))
    unfold nameT at h1 ⊢
    unfold restT at h2 ⊢
    rw [List.takeWhile_cons, if_pos (by rw [bne_iff_ne]; exact hc), List.dropWhile_cons, if_pos (by rw [bne_iff_ne]; exact hc), h1]
    exact ⟨rfl, h2⟩
theorem cut_spec (t : List UInt8) : (Lib.cut t [32]).1 = nameT t ∧ (Lib.cut t [32]).2.1 = restT t := by
  unfold Lib.cut
  rw [index32]
  by_cases h : 32 ∈ t
  · obtain ⟨h1, h2⟩ := name_split t h
    rw [if_pos h, if_pos (by omega), Int.toNat_natCast]
    exact ⟨h1, h2⟩
  · obtain ⟨h1, h2⟩ := name_none t h
    rw [if_neg h, if_neg (by decide)]
    exact ⟨h1.symm, h2.symm⟩
theorem cut_space (t : List UInt8) (h : t.length < 1000000) : ∃ b, strings_Cut.f (bl t) (bl [32]) = some (bl (nameT t), bl (restT t), b) := by
  obtain ⟨h1, h2⟩ := cut_spec t
  refine ⟨(Lib.cut t [32]).2.2, ?_⟩
  unfold strings_Cut.f
  rw [if_pos (by rw [bl_size]; omega)]
  show some (bl (Lib.cut t [32]).1, bl (Lib.cut t [32]).2.1, (Lib.cut t [32]).2.2) = _
  rw [h1, h2]
theorem rest_len (t : List UInt8) : (nameT t).length ≤ t.length ∧ (restT t).length ≤ t.length := by
  by_cases h : 32 ∈ t
  · obtain ⟨h1, h2⟩ := name_split t h
    rw [← h2, List.length_drop]
    have := congrArg List.length h1
    rw [List.length_take] at this
    exact ⟨by omega, by omega⟩
  · obtain ⟨h1, h2⟩ := name_none t h
    rw [h1, h2]
    exact ⟨Nat.le_refl _, Nat.zero_le _⟩
theorem must_snoc (q : List UInt8) (c : UInt8) : mustT (q ++ [c]) = decide (c = 33) := by
  unfold mustT
  rw [List.getLast?_append, List.getLast?_singleton]
  show (some c == some 33) = _
  by_cases h : c = 33
  · subst h; decide
  · rw [decide_eq_false h]
    exact beq_eq_false_iff_ne.2 (fun e => h (Option.some.inj e))
theorem suffix_q (w : List UInt8) (h : w.length < 1000000) : strings_CutSuffix.f (bl w) (bl [33]) = some (bl (kindT w), mustT w) := by
  unfold strings_CutSuffix.f stringslite_CutSuffix.f stringslite_HasSuffix.f
  rcases snoc_cases w with rfl | ⟨q, c, rfl⟩
  · rfl
  · have e0 : (q ++ [c]).length = q.length + 1 := snocLen q c
    have hw : wrap64 (((bl (q ++ [c])).size : Int) - ((bl [33]).size : Int)) = (q.length : Int) := by
      rw [bl_size, bl_size, e0]; show wrap64 (((q.length + 1 : Nat) : Int) - 1) = _; unfold wrap64; omega
    rw [hw, if_pos (by rw [bl_size, bl_size, e0]; show ((q.length + 1 : Nat) : Int) ≥ 1; omega), if_pos (Int.natCast_nonneg _), if_pos (by rw [bl_size, e0]; omega), Int.toNat_natCast, bl_size, bl_sub, bl_toList, bl_toList]
    have e1 : List.take ((q ++ [c]).length - q.length) (List.drop q.length (q ++ [c])) = [c] := by
      rw [List.drop_left, e0, show q.length + 1 - q.length = 1 by omega]; rfl
    have e2 : List.take q.length (List.drop 0 (q ++ [c])) = q := by rw [List.drop_zero, List.take_left]
    unfold kindT
    rw [e1, must_snoc, Option.bind_some]
    by_cases hc : c = 33
    · subst hc
      rw [if_pos (by decide), if_pos (Int.natCast_nonneg _), if_pos (by rw [e0]; omega), Option.bind_some, if_pos (by decide), bl_sub, Nat.sub_zero, e2, List.dropLast_concat]
      rfl
    · rw [if_neg (by rw [beq_iff_eq]; intro e; exact hc (List.cons.inj e).1), Option.bind_some, decide_eq_false hc, if_neg (by decide)]
def partsQ (s : ByteArray) : List ByteArray := Lib.splitB (bl [44, 32]) 0 (Lib.countB s (bl [44, 32])) s
def parseQ (s : ByteArray) : List Fld := (partsQ s).map (fun p => fieldT p.data.toList)
theorem splitK_len (sep : List UInt8) : ∀ (k : Nat) (s : List UInt8), ∀ p ∈ Lib.splitK sep 0 k s, p.length ≤ s.length
  | 0, s, p, hp => by
    rw [Lib.splitK] at hp
    rw [List.mem_singleton.1 hp]; exact Nat.le_refl _
  | k + 1, s, p, hp => by
    rw [Lib.splitK] at hp
    split at hp
    · rw [List.mem_singleton.1 hp]; exact Nat.le_refl _
    · rcases List.mem_cons.1 hp with rfl | hp
      · rw [List.length_take]; omega
      · have := splitK_len sep k _ p hp
        rw [List.length_drop] at this; omega
theorem partsQ_len (s : ByteArray) : (∀ p ∈ partsQ s, p.size ≤ s.size) ∧ (partsQ s).length ≤ s.size + 1 ∧ partsQ s ≠ [] := by
  refine ⟨fun p hp => ?_, ?_, ?_⟩
  · have h := Lib.splitB_data (bl [44, 32]) 0 (Lib.countB s (bl [44, 32])) s
    have hm : p.data.toList ∈ (partsQ s).map (·.data.toList) := List.mem_map.2 ⟨p, hp, rfl⟩
    unfold partsQ at hm
    rw [h] at hm
    have := splitK_len _ _ _ _ hm
    rw [← size_len, ← size_len] at this; exact this
  · have h1 := Lib.splitB_length_le (bl [44, 32]) 0 (Lib.countB s (bl [44, 32])) s
    have h2 := Lib.countB_le (bl [44, 32]) (by decide) s.size s (Nat.le_refl _)
    unfold partsQ; omega
  · unfold partsQ
    cases Lib.countB s (bl [44, 32]) with
    | zero => exact List.cons_ne_nil _ _
    | succ k =>
      rw [Lib.splitB]
      split
      · exact List.cons_ne_nil _ _
      · exact List.cons_ne_nil _ _
def resQ (s : ByteArray) (l : List Fld) : List Fld × Int := if (showB l).toList = s.toList then (if s.toList = [] then ([], 3) else (l, 0)) else ([], 3)
theorem field_size (t : List UInt8) : (fieldT t).f0.size ≤ t.length := (rest_len t).1
theorem parse_q (s : ByteArray) (hs : s.size < 15000) : Evn (fun k => schema_Parse.f k s) (if s.toList = [45] then ([], 0) else resQ s (parseQ s)) := by
  by_cases h : s.toList = [45]
  · rw [if_pos h]
    exact Evn.pos h (Evn.ret _)
  · rw [if_neg h]
    obtain ⟨hp1, hp2, hp3⟩ := partsQ_len s
    refine Evn.neg h (Evn.bc (u := partsQ s) ?_ ?_)
    · unfold strings_Split.f
      rw [if_pos (by omega), if_pos (by decide)]; rfl
    · have key : ∀ (post pre : List ByteArray), partsQ s = pre ++ post → Evn (fun k => schema_Parse.l0 k s (pre.map (fun p => fieldT p.data.toList)) (partsQ s) ((partsQ s).length : Int) (pre.length : Int)) (resQ s (parseQ s)) := by
        intro post
        induction post with
        | nil =>
          intro pre e
          rw [List.append_nil] at e
          have e' : pre.map (fun p => fieldT p.data.toList) = parseQ s := by unfold parseQ; rw [e]
          have hsz : ∀ x ∈ parseQ s, x.f0.size < 20000 := by
            intro x hx
            obtain ⟨p, hp, rfl⟩ := List.mem_map.1 hx
            have h1 := field_size p.data.toList
            have h2 := hp1 p hp
            rw [← size_len] at h1; omega
          have hlen : (parseQ s).length < 100000 := by unfold parseQ; rw [List.length_map]; omega
          rw [e']
          refine Evn.step (fun k => schema_Parse.l0.eq_2 ..) (Evn.neg (by rw [e]; omega) (Evn.bind (schemaShow_q _ hsz hlen) ?_))
          unfold resQ
          by_cases h1 : (showB (parseQ s)).toList = s.toList
          · by_cases h2 : s.toList = []
            · exact Evn.val (by rw [if_pos h1, if_pos h2]) (Evn.pos h1 (Evn.pos h2 (Evn.ret _)))
            · exact Evn.val (by rw [if_pos h1, if_neg h2]) (Evn.pos h1 (Evn.neg h2 (Evn.ret _)))
          · exact Evn.val (by rw [if_neg h1]) (Evn.neg h1 (Evn.ret _))
        | cons x post ih =>
          intro pre e
          have hlt : (pre.length : Int) < ((partsQ s).length : Int) := by rw [e]; exact ltp pre x post
          have hrd : rdOf ByteArray.empty (partsQ s) (pre.length : Int) = x := by rw [e]; exact getDp pre x post _
          have hx := hp1 x (by rw [e]; simp)
          have hxl : x.data.toList.length < 1000000 := by rw [← size_len]; omega
          obtain ⟨h1, h2⟩ := rest_len x.data.toList
          have := ih (pre ++ [x]) (by rw [e, List.append_assoc]; rfl)
          rw [List.map_append] at this
          refine Evn.step (fun k => schema_Parse.l0.eq_2 ..) (Evn.pos hlt (Evn.pos (Int.natCast_nonneg _) (Evn.pos hlt ?_)))
          obtain ⟨b, hb⟩ := cut_space x.data.toList hxl
          rw [bl_eta] at hb
          rw [hrd, w1p pre x (by omega)]
          exact Evn.bc hb (Evn.bc (suffix_q (restT x.data.toList) (by omega)) (Evn.bind (kind_q _) (Evn.pos (by rw [List.length_map]; omega) this)))
      exact key (partsQ s) [] rfl
end Go.Proofs.YtnbbajiabbmdmaaGreatDoor.U8
namespace Go.Proofs.YtnbbajiabbmdmaaGreatDoor.U8
open Go.RowKit Go.Proofs.YtnbbajiabbmdmaaGreatDoor.A Go.Proofs.YtnbbajiabbmdmaaGreatDoorW.PrintWords Go.Proofs.YtnbbajiabbmdmaaGreatDoorW.PrintLast Go.Lib
set_option linter.unusedVariables false
set_option linter.unusedSimpArgs false
end Go.Proofs.YtnbbajiabbmdmaaGreatDoor.U8
namespace Go.Proofs.YtnbbajiabbmdmaaGreatDoor.U8
open Go.RowKit Go.Proofs.YtnbbajiabbmdmaaGreatDoor.A Go.Proofs.YtnbbajiabbmdmaaGreatDoorW.PrintWords Go.Proofs.YtnbbajiabbmdmaaGreatDoorW.PrintLast Go.Lib
set_option linter.unusedVariables false
set_option linter.unusedSimpArgs false
theorem form_in : ∀ (cs : List Nat) (first : Bool), formG first cs = true → ∀ c ∈ cs, c ≠ 32 ∧ c ≠ 44
  | [], first, h, c, hc => by cases hc
  | d :: ds, first, h, c, hc => by
    rw [formG] at h
    have key : (d ≠ 32 ∧ d ≠ 44) ∧ ∃ b, formG b ds = true := by
      by_cases h1 : d = 46
      · rw [if_pos h1] at h
        by_cases h2 : first = true
        · rw [if_pos h2] at h; cases h
        · rw [if_neg h2] at h
          exact ⟨by omega, _, h⟩
      · rw [if_neg h1] at h
        by_cases h2 : letB (d : Int) = true ∨ d = 95
        · rw [if_pos h2] at h
          refine ⟨⟨fun e => ?_, fun e => ?_⟩, _, h⟩
          · subst e
            rcases h2 with h2 | h2
            · exact absurd h2 (by decide)
            · omega
          · subst e
            rcases h2 with h2 | h2
            · exact absurd h2 (by decide)
            · omega
        · rw [if_neg h2] at h
          by_cases h3 : first = false ∧ ((48 ≤ d ∧ d ≤ 57) ∨ d = 45)
          · rw [if_pos h3] at h
            exact ⟨by omega, _, h⟩
          · rw [if_neg h3] at h; cases h
    obtain ⟨k1, b, k2⟩ := key
    rcases List.mem_cons.1 hc with rfl | hc
    · exact k1
    · exact form_in ds b k2 c hc
theorem encL_mem : ∀ (cs : List Nat) (b : UInt8), b ∈ encL cs → ∃ c ∈ cs, b ∈ encodeRune (c : Int)
  | [], b, h => by cases h
  | c :: cs, b, h => by
    rw [encL] at h
    rcases List.mem_append.1 h with h | h
    · exact ⟨c, List.mem_cons_self, h⟩
    · obtain ⟨d, hd, hb⟩ := encL_mem cs b h
      exact ⟨d, List.mem_cons_of_mem _ hd, hb⟩
theorem name_bytes (s : ByteArray) (h : simpleB s = true) : ∀ b ∈ s.data.toList, b ≠ 32 ∧ b ≠ 44 := by
  unfold simpleB at h
  rw [Bool.and_eq_true, decide_eq_true_eq] at h
  obtain ⟨h0, hv, hg⟩ := formed_valid s (check0 s h.1)
  obtain ⟨e1, o1⟩ := valid_runesL _ hv
  intro b hb
  rw [← e1] at hb
  obtain ⟨c, hc, hb⟩ := encL_mem _ _ hb
  obtain ⟨n1, n2⟩ := form_in _ _ hg c hc
  by_cases h128 : c < 128
  · unfold encodeRune at hb
    rw [encodeRuneZ_one (by omega) (by omega)] at hb
    have hb2 : b ∈ [((c : Int).toNat.toUInt8)] := hb
    rw [Int.toNat_natCast] at hb2
    rw [List.mem_singleton.1 hb2]
    refine ⟨fun e => n1 ?_, fun e => n2 ?_⟩
    · have := congrArg UInt8.toNat e
      rw [u8n c (by omega)] at this; exact this
    · have := congrArg UInt8.toNat e
      rw [u8n c (by omega)] at this; exact this
  · have := enc_high c (o1 c hc) (by omega) b hb
    refine ⟨fun e => ?_, fun e => ?_⟩
    · subst e; exact absurd this (by decide)
    · subst e; exact absurd this (by decide)
theorem word_mem (n : Int) : ∀ b ∈ wordL n, b ≠ 32 ∧ b ≠ 44 ∧ b ≠ 33 := by
  unfold wordL
  split
  · decide
  split
  · decide
  split
  · decide
  split
  · decide
  · intro b h; cases h
theorem line_44 (x : Fld) (h : simpleB x.f0 = true) : (44 : UInt8) ∉ lineL x := by
  unfold lineL
  intro hm
  rcases List.mem_append.1 hm with hm | hm
  · rcases List.mem_append.1 hm with hm | hm
    · rcases List.mem_append.1 hm with hm | hm
      · exact (name_bytes _ h _ hm).2 rfl
      · exact absurd (List.mem_singleton.1 hm) (by decide)
    · exact (word_mem _ _ hm).2.1 rfl
  · split at hm
    · exact absurd (List.mem_singleton.1 hm) (by decide)
    · cases hm
theorem takeWhile_32 : ∀ (a b : List UInt8), 32 ∉ a → (a ++ 32 :: b).takeWhile (· != 32) = a ∧ (a ++ 32 :: b).dropWhile (· != 32) = 32 :: b
  | [], b, h => ⟨rfl, rfl⟩
  | c :: a, b, h => by
    have hc : (c != 32) = true := by rw [bne_iff_ne]; exact fun e => h (e ▸ List.mem_cons_self)
    obtain ⟨h1, h2⟩ := takeWhile_32 a b (fun hh => h (List.mem_cons_of_mem _ hh))
    rw [List.cons_append, List.takeWhile_cons, if_pos hc, List.dropWhile_cons, if_pos hc, h1]
    exact ⟨rfl, h2⟩
theorem must_word (w : List UInt8) (h : (33 : UInt8) ∉ w) : mustT w = false := by
  rcases snoc_cases w with rfl | ⟨q, c, rfl⟩
  · rfl
  · rw [must_snoc, decide_eq_false]
    exact fun e => h (by rw [e]; simp)
theorem field_line (x : Fld) (h : simpleB x.f0 = true) (h1 : 1 ≤ x.f1) (h4 : x.f1 ≤ 4) : fieldT (lineL x) = x := by
  have e : lineL x = x.f0.data.toList ++ 32 :: (wordL x.f1 ++ (if x.f2 = true then [33] else [])) := by
    unfold lineL
    rw [List.append_assoc, List.append_assoc]; rfl
  obtain ⟨t1, t2⟩ := takeWhile_32 x.f0.data.toList (wordL x.f1 ++ (if x.f2 = true then [33] else [])) (fun hm => (name_bytes _ h _ hm).1 rfl)
  have e1 : nameT (lineL x) = x.f0.data.toList := by unfold nameT; rw [e, t1]
  have e2 : restT (lineL x) = wordL x.f1 ++ (if x.f2 = true then [33] else []) := by unfold restT; rw [e, t2]; rfl
  have hn : (33 : UInt8) ∉ wordL x.f1 := fun hm => (word_mem _ _ hm).2.2 rfl
  unfold fieldT
  rw [e1, e2, bl_eta]
  unfold kindT
  by_cases hm : x.f2 = true
  · rw [if_pos hm, must_snoc, decide_eq_true rfl, if_pos rfl, List.dropLast_concat, kind_word _ h1 h4, ← hm]
  · rw [if_neg hm, List.append_nil, must_word _ hn, if_neg (by decide), kind_word _ h1 h4, ← Bool.eq_false_iff.2 hm]
theorem pre_44 (c : UInt8) (t : List UInt8) (h : c ≠ 44) : (List.isPrefixOf [44, 32] (c :: t)) = false := by
  simp only [List.isPrefixOf, Bool.and_eq_false_iff, beq_eq_false_iff_ne]
  exact .inl (fun e => h e.symm)
theorem index_no : ∀ x : List UInt8, 44 ∉ x → Lib.index x [44, 32] = -1
  | [], h => rfl
  | c :: t, h => by
    rw [Lib.index, pre_44 c t (fun e => h (e ▸ List.mem_cons_self)), index_no t (fun hh => h (List.mem_cons_of_mem _ hh))]; rfl
theorem index_at (r : List UInt8) : ∀ x : List UInt8, 44 ∉ x → Lib.index (x ++ 44 :: 32 :: r) [44, 32] = (x.length : Int)
  | [], h => by
    rw [List.nil_append, Lib.index, if_pos (by simp [List.isPrefixOf])]; rfl
  | c :: t, h => by
    rw [List.cons_append, Lib.index, pre_44 c _ (fun e => h (e ▸ List.mem_cons_self)), index_at r t (fun hh => h (List.mem_cons_of_mem _ hh)), if_neg (by decide), if_neg (by rw [beq_iff_eq]; omega), List.length_cons]; omega
theorem join_two (x y : List UInt8) (ys : List (List UInt8)) : Lib.join (x :: y :: ys) [44, 32] = x ++ 44 :: 32 :: Lib.join (y :: ys) [44, 32] := by
  rw [Lib.join_cons, Lib.join_cons]
  unfold Lib.joinTail
  rw [List.map_cons, List.flatten_cons, List.append_assoc]
  rfl
theorem split_join : ∀ (xs : List (List UInt8)) (x : List UInt8), (∀ y ∈ x :: xs, (44 : UInt8) ∉ y) → Lib.count (Lib.join (x :: xs) [44, 32]) [44, 32] = xs.length ∧ Lib.splitK [44, 32] 0 xs.length (Lib.join (x :: xs) [44, 32]) = x :: xs
  | [], x, h => by
    rw [Lib.join_one]
    exact ⟨Lib.count_miss (index_no x (h x List.mem_cons_self)), rfl⟩
  | y :: ys, x, h => by
    have hi := index_at (Lib.join (y :: ys) [44, 32]) x (h x List.mem_cons_self)
    obtain ⟨h1, h2⟩ := split_join ys y (fun z hz => h z (List.mem_cons_of_mem _ hz))
    have hd : (x ++ 44 :: 32 :: Lib.join (y :: ys) [44, 32]).drop (x.length + ([44, 32] : List UInt8).length) = Lib.join (y :: ys) [44, 32] := by
      rw [← List.drop_drop, List.drop_left]; rfl
    rw [join_two]
    refine ⟨?_, ?_⟩
    · rw [Lib.count_hit (by decide) hi, hd, h1, List.length_cons]; omega
    · rw [List.length_cons, Lib.splitK, hi, if_neg (by rw [beq_iff_eq]; omega), Int.toNat_natCast, hd, h2, Nat.add_zero, List.take_left]
theorem lines_back (l : List Fld) (h : checkF l = true) : (l.map lineL).map fieldT = l := by
  obtain ⟨ha, _⟩ := checkF_all l h
  rw [List.map_map]
  have : ∀ m : List Fld, (∀ x ∈ m, x ∈ l) → m.map (fieldT ∘ lineL) = m := by
    intro m
    induction m with
    | nil => intro _; rfl
    | cons y ys ih =>
      intro hm
      obtain ⟨k0, k1, k4⟩ := ha y (hm y List.mem_cons_self)
      rw [List.map_cons, ih (fun z hz => hm z (List.mem_cons_of_mem _ hz))]
      exact congrArg (fun z => z :: ys) (field_line y k0 k1 k4)
  exact this l (fun x hx => hx)
theorem lines_44 (l : List Fld) (h : checkF l = true) : ∀ y ∈ l.map lineL, (44 : UInt8) ∉ y := by
  intro y hy
  obtain ⟨x, hx, rfl⟩ := List.mem_map.1 hy
  exact line_44 x ((checkF_all l h).1 x hx).1
theorem parseQ_show (l : List Fld) (h : checkF l = true) (hn : l ≠ []) : parseQ (bl (schemaL l)) = l := by
  have hb := lines_back l h
  have h44 := lines_44 l h
  unfold parseQ partsQ
  have hd := Lib.splitB_data (bl [44, 32]) 0 (Lib.countB (bl (schemaL l)) (bl [44, 32])) (bl (schemaL l))
  have e : (Lib.splitB (bl [44, 32]) 0 (Lib.countB (bl (schemaL l)) (bl [44, 32])) (bl (schemaL l))).map (fun p => fieldT p.data.toList) = ((Lib.splitB (bl [44, 32]) 0 (Lib.countB (bl (schemaL l)) (bl [44, 32])) (bl (schemaL l))).map (·.data.toList)).map fieldT := by rw [List.map_map]; rfl
  rw [e, hd]
  show (Lib.splitK [44, 32] 0 (Lib.count (schemaL l) [44, 32]) (schemaL l)).map fieldT = l
  unfold schemaL
  cases l with
  | nil => exact absurd rfl hn
  | cons x xs =>
    obtain ⟨h1, h2⟩ := split_join (xs.map lineL) (lineL x) h44
    rw [List.map_cons, h1, h2]
    exact hb
theorem same_ev (l : List FldR) (hl : l.length < 1000000) : Evn (fun k => caduceusref04_Same.f k l l) true := by
  refine Evn.pos rfl ?_
  refine Evn.loop (g := fun k i => caduceusref04_Same.l0 k l l i) l (by omega) (fun _ => True) (fun _ _ => true) ?_ ?_ l [] rfl trivial
  · intro _ hn
    exact Evn.step (fun k => caduceusref04_Same.l0.eq_2 ..) (Evn.neg hn (Evn.ret _))
  · intro pre x post e _ hlt h0 hw hget hmem ih
    refine Evn.step (fun k => caduceusref04_Same.l0.eq_2 ..) (Evn.pos hlt (Evn.pos h0 (Evn.pos hlt ?_)))
    rw [hw, beq_self_eq_true, beq_self_eq_true, beq_self_eq_true]
    exact Evn.neg (by decide) (ih trivial)
end Go.Proofs.YtnbbajiabbmdmaaGreatDoor.U8
namespace Go.Proofs.YtnbbajiabbmdmaaGreatDoor.U8
open Go.RowKit Go.Proofs.YtnbbajiabbmdmaaGreatDoor.A Go.Proofs.YtnbbajiabbmdmaaGreatDoorW.PrintWords Go.Proofs.YtnbbajiabbmdmaaGreatDoorW.PrintLast Go.Lib
set_option linter.unusedVariables false
set_option linter.unusedSimpArgs false
theorem or8 (n b : Int) (h0 : 0 ≤ n) (h1 : n < 18014398509481984) (b0 : 0 ≤ b) (b1 : b < 256) : Go.bits .or .i64 (n * 256) b = 256 * n + b := by
  have h := bits_join .i64 63 (by decide) (fun n h0 h1 => by have e : (2 : Int) ^ 63 = 9223372036854775808 := by decide
                                                             rw [e] at h1; rw [IntKind.wrap_i64]; omega) 8 (n * 256) b (by omega) (by have e : (2 : Int) ^ 8 = 256 := by decide
                                                                                                                                      rw [e]; omega) (by have e : (2 : Int) ^ 63 = 9223372036854775808 := by decide
                                                                                                                                                         rw [e]; omega) b0 (by have e : (2 : Int) ^ 8 = 256 := by decide
                                                                                                                                                                               rw [e]; omega) (by have e : (2 : Int) ^ 63 = 9223372036854775808 := by decide
                                                                                                                                                                                                  rw [e]; omega)
  rw [h]; omega
theorem and63 (b : Int) (b0 : 0 ≤ b) (b1 : b < 256) : Go.bits .and .u8 b 63 = b % 64 := by
  have h : ∀ n : Fin 256, Go.bits .and .u8 (n.val : Int) 63 = (n.val : Int) % 64 := by decide +kernel
  have := h ⟨b.toNat, by omega⟩
  simp only at this
  rw [Int.toNat_of_nonneg b0] at this
  exact this
/-- The number of the first bytes, the first one without its two upper bits. -/
def be (l : List UInt8) : Nat → Nat
  | 0 => byt l 0 % 64
  | i + 1 => 256 * be l i + byt l (i + 1)
theorem be_lt (l : List UInt8) : ∀ i, be l i < 64 * 256 ^ i
  | 0 => by show byt l 0 % 64 < _; omega
  | i + 1 => by
    have h := be_lt l i
    have b := byt_lt l (i + 1)
    show 256 * be l i + byt l (i + 1) < _
    rw [Nat.pow_succ]
    generalize 256 ^ i = P at *
    omega
theorem be_small (l : List UInt8) (i : Nat) (h : i ≤ 6) : be l i < 18014398509481984 := by
  have h1 := be_lt l i
  have h2 : 256 ^ i ≤ 256 ^ 6 := Nat.pow_le_pow_right (by decide) h
  have e : 256 ^ 6 = 281474976710656 := by decide
  rw [e] at h2
  omega
theorem be_max (l : List UInt8) (i : Nat) (h : i ≤ 7) : be l i ≤ 4611686018427387903 := by
  have h1 := be_lt l i
  have h2 : 256 ^ i ≤ 256 ^ 7 := Nat.pow_le_pow_right (by decide) h
  have e : 256 ^ 7 = 72057594037927936 := by decide
  rw [e] at h2
  omega
theorem btb (s : ByteArray) (i : Nat) : bt s (i : Int) = (byt s.data.toList i : Int) := by
  have := bt_byt s (i : Int)
  rwa [Int.toNat_natCast] at this
theorem qloop (s : ByteArray) (sz : Nat) (hz : sz ≤ 8) (hs : sz ≤ s.size) (k : Nat) : ∀ m i, sz = i + 1 + m →
    quic_Get.l0 (k + m) s (be s.data.toList i : Int) (sz : Int) ((i + 1 : Nat) : Int) = quic_Get.l0 k s (be s.data.toList (sz - 1) : Int) (sz : Int) (sz : Int)
  | 0, i, h => by rw [show sz - 1 = i by omega, show i + 1 = sz by omega]; rfl
  | m + 1, i, h => by
    have h1 := be_small s.data.toList i (by omega)
    have h2 := byt_lt s.data.toList (i + 1)
    have ih := qloop s sz hz hs k m (i + 1) (by omega)
    show quic_Get.l0 (k + m + 1) s _ _ _ = _
    rw [quic_Get.l0, if_pos (by omega), if_pos (by omega), if_pos (by omega), btb, w64 (x := (be s.data.toList i : Int) * 256) (by omega) (by omega), w64 (x := ((byt s.data.toList (i + 1) : Nat) : Int)) (by omega) (by omega), or8 _ _ (by omega) (by omega) (by omega) (by omega), w64 (by omega) (by omega)]
    rw [← ih]
    show _ = quic_Get.l0 (k + m) s ((256 * be s.data.toList i + byt s.data.toList (i + 1) : Nat) : Int) _ _
    congr 1
/-- How many bytes a number has that may be written. -/
def szOf (n : Nat) : Nat := if n < 64 then 1 else if n < 16384 then 2 else if n < 1073741824 then 4 else 8
theorem qsize (n : Nat) (h : n ≤ 4611686018427387903) (k : Nat) : quic_Size.f (k + 1) (n : Int) = some (szOf n : Int) := by
  unfold quic_Size.f szOf
  rw [if_neg (by omega), quic_Size.j0, if_neg (by simp; omega)]
  have e1 : wrap64 (1 * 2) = 2 := by unfold wrap64; omega
  have e2 : wrap64 (2 * 2) = 4 := by unfold wrap64; omega
  have e3 : wrap64 (4 * 2) = 8 := by unfold wrap64; omega
  rw [e1, e2, e3]
  by_cases h1 : n < 64
  · rw [if_neg (by omega), if_neg (by omega), if_neg (by omega), if_pos h1]; rfl
  by_cases h2 : n < 16384
  · rw [if_neg (by omega), if_neg (by omega), if_pos (by omega), if_neg h1, if_pos h2]; rfl
  by_cases h3 : n < 1073741824
  · rw [if_neg (by omega), if_pos (by omega), if_neg h1, if_neg h2, if_pos h3]; rfl
  · rw [if_pos (by omega), if_neg h1, if_neg h2, if_neg h3]; rfl
/-- A number's bytes. -/
def numB (n : Nat) : List Int :=
  if n < 64 then [(n : Int)]
  else if n < 16384 then [((n / 256 + 64 : Nat) : Int), ((n % 256 : Nat) : Int)]
  else if n < 1073741824 then [((n / 16777216 + 128 : Nat) : Int), ((n / 65536 % 256 : Nat) : Int), ((n / 256 % 256 : Nat) : Int), ((n % 256 : Nat) : Int)]
  else [((n / 72057594037927936 + 192 : Nat) : Int), ((n / 281474976710656 % 256 : Nat) : Int), ((n / 1099511627776 % 256 : Nat) : Int), ((n / 4294967296 % 256 : Nat) : Int), ((n / 16777216 % 256 : Nat) : Int), ((n / 65536 % 256 : Nat) : Int), ((n / 256 % 256 : Nat) : Int), ((n % 256 : Nat) : Int)]
theorem numB_len (n : Nat) : (numB n).length = szOf n := by
  unfold numB szOf
  repeat' split
  all_goals rfl
theorem szOf_cases (n : Nat) : (n < 64 ∧ szOf n = 1) ∨ (64 ≤ n ∧ n < 16384 ∧ szOf n = 2) ∨ (16384 ≤ n ∧ n < 1073741824 ∧ szOf n = 4) ∨ (1073741824 ≤ n ∧ szOf n = 8) := by
  unfold szOf
  repeat' split
  all_goals omega
theorem ofb (x : Int) (b : UInt8) (h : x = (b.toNat : Int)) : UInt8.ofNat x.toNat = b := by
  rw [h, Int.toNat_natCast, UInt8.ofNat_toNat]
theorem lcons {l : List UInt8} {n : Nat} (h : n + 1 ≤ l.length) : ∃ b t, l = b :: t ∧ n ≤ t.length := by
  cases l with
  | nil => simp at h
  | cons b t => exact ⟨b, t, rfl, by simpa using h⟩
theorem numKey (l : List UInt8) (sz : Nat) (hsz : sz = 2 ^ (byt l 0 / 64)) (hl : sz ≤ l.length) : Go.Lib.bytesOf (numB (be l (sz - 1))) = l.take sz ↔ szOf (be l (sz - 1)) = sz := by
  constructor
  · intro h
    have := congrArg List.length h
    unfold Go.Lib.bytesOf at this
    rw [List.length_map, numB_len, List.length_take, Nat.min_eq_left hl] at this
    exact this
  · intro h
    have hb := byt_lt l 0
    have hc : byt l 0 / 64 = 0 ∨ byt l 0 / 64 = 1 ∨ byt l 0 / 64 = 2 ∨ byt l 0 / 64 = 3 := by omega
    have hz := szOf_cases (be l (sz - 1))
    have p0 : (2 : Nat) ^ 0 = 1 := by decide
    have p1 : (2 : Nat) ^ 1 = 2 := by decide
    have p2 : (2 : Nat) ^ 2 = 4 := by decide
    have p3 : (2 : Nat) ^ 3 = 8 := by decide
    rcases hc with hc | hc | hc | hc <;> rw [hc] at hsz <;> simp only [p0, p1, p2, p3] at hsz <;> subst hsz
    · obtain ⟨b0, t, rfl, q0⟩ := lcons (n := 0) hl
      have e : be (b0 :: t) (1 - 1) = b0.toNat := by
        have : byt (b0 :: t) 0 = b0.toNat := rfl
        show byt (b0 :: t) 0 % 64 = _
        omega
      rw [e] at hz h ⊢
      unfold numB
      rw [if_pos (by omega)]
      show [UInt8.ofNat _] = [b0]
      rw [ofb _ b0 rfl]
    · obtain ⟨b0, t, rfl, q0⟩ := lcons (n := 1) hl
      obtain ⟨b1, t, rfl, q1⟩ := lcons (n := 0) q0
      have e0 : b0.toNat / 64 = 1 := hc
      have e : be (b0 :: b1 :: t) (2 - 1) = 256 * (b0.toNat % 64) + b1.toNat := rfl
      have g0 := UInt8.toNat_lt b0
      have g1 := UInt8.toNat_lt b1
      rw [e] at hz h ⊢
      unfold numB
      rw [if_neg (by omega), if_pos (by omega)]
      show [UInt8.ofNat _, UInt8.ofNat _] = [b0, b1]
      rw [ofb _ b0 (by omega), ofb _ b1 (by omega)]
    · obtain ⟨b0, t, rfl, q0⟩ := lcons (n := 3) hl
      obtain ⟨b1, t, rfl, q1⟩ := lcons (n := 2) q0
      obtain ⟨b2, t, rfl, q2⟩ := lcons (n := 1) q1
      obtain ⟨b3, t, rfl, q3⟩ := lcons (n := 0) q2
      have e0 : b0.toNat / 64 = 2 := hc
      have e : be (b0 :: b1 :: b2 :: b3 :: t) (4 - 1) = 256 * (256 * (256 * (b0.toNat % 64) + b1.toNat) + b2.toNat) + b3.toNat := rfl
      have g0 := UInt8.toNat_lt b0
      have g1 := UInt8.toNat_lt b1
      have g2 := UInt8.toNat_lt b2
      have g3 := UInt8.toNat_lt b3
      rw [e] at hz h ⊢
      unfold numB
      rw [if_neg (by omega), if_neg (by omega), if_pos (by omega)]
      show [UInt8.ofNat _, UInt8.ofNat _, UInt8.ofNat _, UInt8.ofNat _] = [b0, b1, b2, b3]
      rw [ofb _ b0 (by omega), ofb _ b1 (by omega), ofb _ b2 (by omega), ofb _ b3 (by omega)]
    · obtain ⟨b0, t, rfl, q0⟩ := lcons (n := 7) hl
      obtain ⟨b1, t, rfl, q1⟩ := lcons (n := 6) q0
      obtain ⟨b2, t, rfl, q2⟩ := lcons (n := 5) q1
      obtain ⟨b3, t, rfl, q3⟩ := lcons (n := 4) q2
      obtain ⟨b4, t, rfl, q4⟩ := lcons (n := 3) q3
      obtain ⟨b5, t, rfl, q5⟩ := lcons (n := 2) q4
      obtain ⟨b6, t, rfl, q6⟩ := lcons (n := 1) q5
      obtain ⟨b7, t, rfl, q7⟩ := lcons (n := 0) q6
      have e0 : b0.toNat / 64 = 3 := hc
      have e : be (b0 :: b1 :: b2 :: b3 :: b4 :: b5 :: b6 :: b7 :: t) (8 - 1) = 256 * (256 * (256 * (256 * (256 * (256 * (256 * (b0.toNat % 64) + b1.toNat) + b2.toNat) + b3.toNat) + b4.toNat) + b5.toNat) + b6.toNat) + b7.toNat := rfl
      have g0 := UInt8.toNat_lt b0
      have g1 := UInt8.toNat_lt b1
      have g2 := UInt8.toNat_lt b2
      have g3 := UInt8.toNat_lt b3
      have g4 := UInt8.toNat_lt b4
      have g5 := UInt8.toNat_lt b5
      have g6 := UInt8.toNat_lt b6
      have g7 := UInt8.toNat_lt b7
      rw [e] at hz h ⊢
      unfold numB
      rw [if_neg (by omega), if_neg (by omega), if_neg (by omega)]
      show [UInt8.ofNat _, UInt8.ofNat _, UInt8.ofNat _, UInt8.ofNat _, UInt8.ofNat _, UInt8.ofNat _, UInt8.ofNat _, UInt8.ofNat _] = [b0, b1, b2, b3, b4, b5, b6, b7]
      rw [ofb _ b0 (by omega), ofb _ b1 (by omega), ofb _ b2 (by omega), ofb _ b3 (by omega), ofb _ b4 (by omega), ofb _ b5 (by omega), ofb _ b6 (by omega), ofb _ b7 (by omega)]
/-- The number at the front of bytes: the number, what is left, the error. -/
def getS (s : ByteArray) : Int × ByteArray × Int :=
  if s.size = 0 then (0, ⟨#[]⟩, 7)
  else if s.size < 2 ^ (byt s.data.toList 0 / 64) then (0, ⟨#[]⟩, 7)
  else if szOf (be s.data.toList (2 ^ (byt s.data.toList 0 / 64) - 1)) = 2 ^ (byt s.data.toList 0 / 64) then ((be s.data.toList (2 ^ (byt s.data.toList 0 / 64) - 1) : Int), s.extract (2 ^ (byt s.data.toList 0 / 64)) s.size, 0)
  else (0, ⟨#[]⟩, 3)
theorem shlc (c : Nat) (h : c ≤ 3) : shl .i64 1 (c : Int) = ((2 ^ c : Nat) : Int) := by
  have : c = 0 ∨ c = 1 ∨ c = 2 ∨ c = 3 := by omega
  rcases this with rfl | rfl | rfl | rfl <;> decide
theorem pow_le8 (c : Nat) (h : c ≤ 3) : 1 ≤ 2 ^ c ∧ 2 ^ c ≤ 8 := by
  have : c = 0 ∨ c = 1 ∨ c = 2 ∨ c = 3 := by omega
  rcases this with rfl | rfl | rfl | rfl <;> decide
theorem qget (s : ByteArray) (hs : s.size < 1000000) (k : Nat) : quic_Get.f (k + 12) s = some (getS s) := by
  have hb := byt_lt s.data.toList 0
  have e0 : bt s 0 = byt s.data.toList 0 := bt_byt s 0
  have hp := pow_le8 (byt s.data.toList 0 / 64) (by omega)
  have e2 : shl .i64 1 ((byt s.data.toList 0 : Int) / 64) = ((2 ^ (byt s.data.toList 0 / 64) : Nat) : Int) := by
    have := shlc (byt s.data.toList 0 / 64) (by omega)
    rwa [Int.natCast_ediv] at this
  unfold quic_Get.f getS
  by_cases hz : s.size = 0
  · rw [if_pos ((toList_nil s).2 hz), if_pos hz]
  rw [if_neg (fun h => hz ((toList_nil s).1 h)), if_neg hz, if_pos (by omega), e0, if_pos (by omega), e2, and63 _ (by omega) (by omega)]
  generalize hsz : 2 ^ (byt s.data.toList 0 / 64) = sz at *
  by_cases hl : s.size < sz
  · rw [if_pos (by omega), if_pos hl]
  rw [if_neg (by omega), if_neg hl, w64 (by omega) (by omega)]
  have ql := qloop s sz hp.2 (by omega) (k + 12 - (sz - 1)) (sz - 1) 0 (by omega)
  rw [show k + 12 - (sz - 1) + (sz - 1) = k + 12 by omega] at ql
  have e3 : ((be s.data.toList 0 : Nat) : Int) = (byt s.data.toList 0 : Int) % 64 := rfl
  rw [← e3]
  refine ql.trans ?_
  obtain ⟨q, hq⟩ : ∃ q, k + 12 - (sz - 1) = q + 1 + 1 := ⟨k + 12 - (sz - 1) - 2, by omega⟩
  rw [hq, quic_Get.l0, if_neg (by omega), qsize _ (be_max _ _ (by omega)) q]
  simp only [Option.bind_some]
  by_cases hf : szOf (be s.data.toList (sz - 1)) = sz
  · rw [if_pos (by omega), if_pos (by omega), if_pos (by omega), if_pos hf, Int.toNat_natCast]
  · rw [if_neg (by omega), if_neg hf]
end Go.Proofs.YtnbbajiabbmdmaaGreatDoor.U8
namespace Go.Proofs.YtnbbajiabbmdmaaGreatDoor.U8
open Go.RowKit Go.Proofs.YtnbbajiabbmdmaaGreatDoor.A Go.Proofs.YtnbbajiabbmdmaaGreatDoorW.PrintWords Go.Proofs.YtnbbajiabbmdmaaGreatDoorW.PrintLast Go.Lib
set_option linter.unusedVariables false
set_option linter.unusedSimpArgs false
theorem st256 (n P : Nat) : 256 * (n / (P * 256)) + n / P % 256 = n / P := by
  rw [← Nat.div_div_eq_div_mul]; omega
/-- A number's bytes, as bytes. -/
def encN (n : Nat) : List UInt8 := Go.Lib.bytesOf (numB n)
theorem encN_len (n : Nat) : (encN n).length = szOf n := by
  unfold encN Go.Lib.bytesOf
  rw [List.length_map, numB_len]
theorem ub (n : Nat) (h : n < 256) : (UInt8.ofNat (n : Int).toNat).toNat = n := by rw [Int.toNat_natCast, UInt8.toNat_ofNat']; omega
theorem enc_be (n : Nat) (h : n ≤ 4611686018427387903) (r : List UInt8) : 2 ^ (byt (encN n ++ r) 0 / 64) = szOf n ∧ be (encN n ++ r) (szOf n - 1) = n := by
  have p0 : (2 : Nat) ^ 0 = 1 := by decide
  have p1 : (2 : Nat) ^ 1 = 2 := by decide
  have p2 : (2 : Nat) ^ 2 = 4 := by decide
  have p3 : (2 : Nat) ^ 3 = 8 := by decide
  unfold encN numB szOf
  by_cases h1 : n < 64
  · rw [if_pos h1, if_pos h1]
    have b0 : byt (Go.Lib.bytesOf [(n : Int)] ++ r) 0 = n := ub n (by omega)
    refine ⟨by rw [b0, show n / 64 = 0 by omega], ?_⟩
    show byt _ 0 % 64 = n
    rw [b0]; omega
  rw [if_neg h1, if_neg h1]
  by_cases h2 : n < 16384
  · rw [if_pos h2, if_pos h2]
    have b0 : byt (Go.Lib.bytesOf [((n / 256 + 64 : Nat) : Int), ((n % 256 : Nat) : Int)] ++ r) 0 = n / 256 + 64 := ub _ (by omega)
    have b1 : byt (Go.Lib.bytesOf [((n / 256 + 64 : Nat) : Int), ((n % 256 : Nat) : Int)] ++ r) 1 = n % 256 := ub _ (by omega)
    refine ⟨by rw [b0, show (n / 256 + 64) / 64 = 1 by omega], ?_⟩
    show 256 * (byt _ 0 % 64) + byt _ 1 = n
    rw [b0, b1]; omega
  rw [if_neg h2, if_neg h2]
  by_cases h3 : n < 1073741824
  · rw [if_pos h3, if_pos h3]
    generalize hl : Go.Lib.bytesOf [((n / 16777216 + 128 : Nat) : Int), ((n / 65536 % 256 : Nat) : Int), ((n / 256 % 256 : Nat) : Int), ((n % 256 : Nat) : Int)] ++ r = l
    have b0 : byt l 0 = n / 16777216 + 128 := by rw [← hl]; exact ub _ (by omega)
    have b1 : byt l 1 = n / 65536 % 256 := by rw [← hl]; exact ub _ (by omega)
    have b2 : byt l 2 = n / 256 % 256 := by rw [← hl]; exact ub _ (by omega)
    have b3 : byt l 3 = n % 256 := by rw [← hl]; exact ub _ (by omega)
    refine ⟨by rw [b0, show (n / 16777216 + 128) / 64 = 2 by omega], ?_⟩
    show 256 * (256 * (256 * (byt l 0 % 64) + byt l 1) + byt l 2) + byt l 3 = n
    rw [b0, b1, b2, b3, show (n / 16777216 + 128) % 64 = n / 16777216 by omega]
    rw [show 256 * (n / 16777216) + n / 65536 % 256 = n / 65536 from st256 n 65536, show 256 * (n / 65536) + n / 256 % 256 = n / 256 from st256 n 256]; omega
  · rw [if_neg h3, if_neg h3]
    generalize hl : Go.Lib.bytesOf [((n / 72057594037927936 + 192 : Nat) : Int), ((n / 281474976710656 % 256 : Nat) : Int), ((n / 1099511627776 % 256 : Nat) : Int), ((n / 4294967296 % 256 : Nat) : Int), ((n / 16777216 % 256 : Nat) : Int), ((n / 65536 % 256 : Nat) : Int), ((n / 256 % 256 : Nat) : Int), ((n % 256 : Nat) : Int)] ++ r = l
    have b0 : byt l 0 = n / 72057594037927936 + 192 := by rw [← hl]; exact ub _ (by omega)
    have b1 : byt l 1 = n / 281474976710656 % 256 := by rw [← hl]; exact ub _ (by omega)
    have b2 : byt l 2 = n / 1099511627776 % 256 := by rw [← hl]; exact ub _ (by omega)
    have b3 : byt l 3 = n / 4294967296 % 256 := by rw [← hl]; exact ub _ (by omega)
    have b4 : byt l 4 = n / 16777216 % 256 := by rw [← hl]; exact ub _ (by omega)
    have b5 : byt l 5 = n / 65536 % 256 := by rw [← hl]; exact ub _ (by omega)
    have b6 : byt l 6 = n / 256 % 256 := by rw [← hl]; exact ub _ (by omega)
    have b7 : byt l 7 = n % 256 := by rw [← hl]; exact ub _ (by omega)
    refine ⟨by rw [b0, show (n / 72057594037927936 + 192) / 64 = 3 by omega], ?_⟩
    show 256 * (256 * (256 * (256 * (256 * (256 * (256 * (byt l 0 % 64) + byt l 1) + byt l 2) + byt l 3) + byt l 4) + byt l 5) + byt l 6) + byt l 7 = n
    rw [b0, b1, b2, b3, b4, b5, b6, b7, show (n / 72057594037927936 + 192) % 64 = n / 72057594037927936 by omega]
    rw [show 256 * (n / 72057594037927936) + n / 281474976710656 % 256 = n / 281474976710656 from st256 n 281474976710656, show 256 * (n / 281474976710656) + n / 1099511627776 % 256 = n / 1099511627776 from st256 n 1099511627776, show 256 * (n / 1099511627776) + n / 4294967296 % 256 = n / 4294967296 from st256 n 4294967296, show 256 * (n / 4294967296) + n / 16777216 % 256 = n / 16777216 from st256 n 16777216, show 256 * (n / 16777216) + n / 65536 % 256 = n / 65536 from st256 n 65536, show 256 * (n / 65536) + n / 256 % 256 = n / 256 from st256 n 256]; omega
theorem szOf_pos (n : Nat) : 1 ≤ szOf n ∧ szOf n ≤ 8 := by have := szOf_cases n; omega
theorem get_fwd (s : ByteArray) (n : Nat) (h : n ≤ 4611686018427387903) (r : List UInt8) (hs : s.data.toList = encN n ++ r) :
    getS s = ((n : Int), s.extract (szOf n) s.size, 0) ∧ s.data.toList.drop (szOf n) = r ∧ szOf n ≤ s.size := by
  have hl := congrArg List.length hs
  rw [List.length_append, ← size_len, encN_len] at hl
  have hp := szOf_pos n
  obtain ⟨e1, e2⟩ := enc_be n h r
  rw [← hs] at e1 e2
  refine ⟨?_, by rw [hs, ← encN_len, List.drop_left], by omega⟩
  unfold getS
  rw [if_neg (by omega), e1, if_neg (by omega), e2, if_pos rfl]
theorem get_back (s : ByteArray) (n : Int) (rest : ByteArray) (h : getS s = (n, rest, 0)) : 0 ≤ n ∧ n ≤ 4611686018427387903 ∧ s.data.toList = encN n.toNat ++ rest.data.toList := by
  unfold getS at h
  by_cases h0 : s.size = 0
  · rw [if_pos h0] at h; simp at h
  rw [if_neg h0] at h
  by_cases h1 : s.size < 2 ^ (byt s.data.toList 0 / 64)
  · rw [if_pos h1] at h; simp at h
  rw [if_neg h1] at h
  have hb := byt_lt s.data.toList 0
  have hp := pow_le8 (byt s.data.toList 0 / 64) (by omega)
  generalize hsz : 2 ^ (byt s.data.toList 0 / 64) = sz at *
  have hm := be_max s.data.toList (sz - 1) (by omega)
  by_cases h2 : szOf (be s.data.toList (sz - 1)) = sz
  · rw [if_pos h2] at h
    simp only [Prod.mk.injEq] at h
    obtain ⟨rfl, rfl, _⟩ := h
    refine ⟨by omega, by omega, ?_⟩
    rw [Int.toNat_natCast]
    unfold encN
    rw [(numKey s.data.toList sz hsz.symm (by rw [← size_len]; omega)).2 h2, extract_toList, List.take_append_drop]
  · rw [if_neg h2] at h; simp at h
theorem orC (x c : Nat) (hx : x < 64) (hc : c < 4) : Go.bits .or .u8 (x : Int) ((64 * c : Nat) : Int) = ((x + 64 * c : Nat) : Int) := by
  have all : ∀ (x : Fin 64) (c : Fin 4), Go.bits .or .u8 (x.val : Int) ((64 * c.val : Nat) : Int) = ((x.val + 64 * c.val : Nat) : Int) := by decide +kernel
  exact all ⟨x, hx⟩ ⟨c, hc⟩
theorem qstep (n sz : Nat) (h : n ≤ 4611686018427387903) (hsz : sz ≤ 8) (L : List Int) (hL : L.length = sz) (j : Nat) (hj : j < sz) (P : Nat) (hP : P = 2 ^ (8 * j)) (J K : Int) (hJ : J = j) (hK : K = (j : Int) + 1) (k : Nat) :
    quic_Num.l0 (k + 1) (n : Int) (sz : Int) L (sz : Int) J = quic_Num.l0 k (n : Int) (sz : Int) (L.set (sz - 1 - j) ((n / P % 256 : Nat) : Int)) (sz : Int) K := by
  subst hJ hK
  have e : wrap64 (8 * (j : Int)) = ((8 * j : Nat) : Int) := by rw [w64 (by omega) (by omega)]; omega
  have e1 : wrap64 (wrap64 ((sz : Int) - 1) - (j : Int)) = ((sz - 1 - j : Nat) : Int) := by
    rw [w64 (x := (sz : Int) - 1) (by omega) (by omega), w64 (by omega) (by omega)]; omega
  have e3 : shr .i64 (n : Int) ((8 * j : Nat) : Int) = ((n / P : Nat) : Int) := by
    unfold shr
    rw [Int.toNat_natCast, Nat.min_eq_left (by show 8 * j ≤ 64; omega), hP, Int.natCast_ediv]
    congr 1
  rw [quic_Num.l0, if_pos (by omega), e, if_pos (by omega), e1, if_pos (by omega), if_pos (by rw [hL]; omega), e3, Int.toNat_natCast, Int.natCast_emod, w64 (by omega) (by omega)]
  rfl
theorem qlast (n sz : Nat) (L : List Int) (hL : L.length = sz) (hz : 1 ≤ sz) (J : Int) (hJ : J = (sz : Int)) (c x : Nat) (hc : c < 4) (k : Nat) (hcl : quic_class.f k (sz : Int) = some (c : Int)) (hx : rd L 0 = (x : Int)) (hx6 : x < 64) :
    quic_Num.l0 (k + 1) (n : Int) (sz : Int) L (sz : Int) J = some (strOfNums (L.set 0 ((x + 64 * c : Nat) : Int))) := by
  subst hJ
  rw [quic_Num.l0, if_neg (by omega), if_pos (by omega), hcl, Option.bind_some, hx, w64 (by omega) (by omega), show ((c : Int) * 64) % 256 = ((64 * c : Nat) : Int) by omega, orC x c hx6 hc]
  rfl
theorem cls2 (k : Nat) : quic_class.f (k + 5) ((2 : Nat) : Int) = some ((1 : Nat) : Int) := by
  unfold quic_class.f
  rw [quic_class.l0, if_pos (by decide), show wrap64 (Int.tdiv ((2 : Nat) : Int) 2) = 1 by decide +kernel, show wrap64 (0 + 1) = 1 by decide +kernel, quic_class.l0, if_neg (by decide)]; rfl
theorem cls4 (k : Nat) : quic_class.f (k + 5) ((4 : Nat) : Int) = some ((2 : Nat) : Int) := by
  unfold quic_class.f
  rw [quic_class.l0, if_pos (by decide), show wrap64 (Int.tdiv ((4 : Nat) : Int) 2) = 2 by decide +kernel, show wrap64 (0 + 1) = 1 by decide +kernel, quic_class.l0, if_pos (by decide), show wrap64 (Int.tdiv 2 2) = 1 by decide +kernel, show wrap64 (1 + 1) = 2 by decide +kernel, quic_class.l0, if_neg (by decide)]; rfl
theorem cls8 (k : Nat) : quic_class.f (k + 5) ((8 : Nat) : Int) = some ((3 : Nat) : Int) := by
  unfold quic_class.f
  rw [quic_class.l0, if_pos (by decide), show wrap64 (Int.tdiv ((8 : Nat) : Int) 2) = 4 by decide +kernel, show wrap64 (0 + 1) = 1 by decide +kernel, quic_class.l0, if_pos (by decide), show wrap64 (Int.tdiv 4 2) = 2 by decide +kernel, show wrap64 (1 + 1) = 2 by decide +kernel, quic_class.l0, if_pos (by decide), show wrap64 (Int.tdiv 2 2) = 1 by decide +kernel, show wrap64 (2 + 1) = 3 by decide +kernel, quic_class.l0, if_neg (by decide)]; rfl
theorem numq (n : Nat) (h : n ≤ 4611686018427387903) (k : Nat) : quic_Num.f (k + 20) (n : Int) = some (strOfNums (numB n)) := by
  unfold quic_Num.f
  rw [show k + 20 = k + 19 + 1 by omega, qsize n h (k + 19), Option.bind_some]
  have hp := szOf_pos n
  rw [if_neg (by omega), if_pos (by omega), if_pos (by omega), Int.toNat_natCast]
  unfold szOf numB
  by_cases h1 : n < 64
  · rw [if_pos h1, if_pos h1, qstep n 1 h (by omega) _ rfl 0 (by omega) 1 (by decide) 0 1 rfl rfl]
    rw [qlast n 1 _ rfl (by omega) 1 rfl 0 (n / 1 % 256) (by omega) (k + 18) rfl rfl (by omega), show n / 1 % 256 + 64 * 0 = n by omega]; rfl
  rw [if_neg h1, if_neg h1]
  by_cases h2 : n < 16384
  · rw [if_pos h2, if_pos h2, qstep n 2 h (by omega) _ rfl 0 (by omega) 1 (by decide) 0 1 rfl rfl, qstep n 2 h (by omega) _ rfl 1 (by omega) 256 (by decide) 1 2 rfl rfl]
    rw [qlast n 2 _ rfl (by omega) 2 rfl 1 (n / 256 % 256) (by omega) (k + 17) (cls2 (k + 12)) rfl (by omega), show n / 256 % 256 + 64 * 1 = n / 256 + 64 by omega]
    rw [show n / 1 % 256 = n % 256 by omega]; rfl
  rw [if_neg h2, if_neg h2]
  by_cases h3 : n < 1073741824
  · rw [if_pos h3, if_pos h3, qstep n 4 h (by omega) _ rfl 0 (by omega) 1 (by decide) 0 1 rfl rfl, qstep n 4 h (by omega) _ rfl 1 (by omega) 256 (by decide) 1 2 rfl rfl, qstep n 4 h (by omega) _ rfl 2 (by omega) 65536 (by decide) 2 3 rfl rfl, qstep n 4 h (by omega) _ rfl 3 (by omega) 16777216 (by decide) 3 4 rfl rfl]
    rw [qlast n 4 _ rfl (by omega) 4 rfl 2 (n / 16777216 % 256) (by omega) (k + 15) (cls4 (k + 10)) rfl (by omega), show n / 16777216 % 256 + 64 * 2 = n / 16777216 + 128 by omega]
    rw [show n / 1 % 256 = n % 256 by omega]; rfl
  · rw [if_neg h3, if_neg h3, qstep n 8 h (by omega) _ rfl 0 (by omega) 1 (by decide) 0 1 rfl rfl, qstep n 8 h (by omega) _ rfl 1 (by omega) 256 (by decide) 1 2 rfl rfl, qstep n 8 h (by omega) _ rfl 2 (by omega) 65536 (by decide) 2 3 rfl rfl, qstep n 8 h (by omega) _ rfl 3 (by omega) 16777216 (by decide) 3 4 rfl rfl,
      qstep n 8 h (by omega) _ rfl 4 (by omega) 4294967296 (by decide) 4 5 rfl rfl, qstep n 8 h (by omega) _ rfl 5 (by omega) 1099511627776 (by decide) 5 6 rfl rfl, qstep n 8 h (by omega) _ rfl 6 (by omega) 281474976710656 (by decide) 6 7 rfl rfl, qstep n 8 h (by omega) _ rfl 7 (by omega) 72057594037927936 (by decide) 7 8 rfl rfl]
    rw [qlast n 8 _ rfl (by omega) 8 rfl 3 (n / 72057594037927936 % 256) (by omega) (k + 11) (cls8 (k + 6)) rfl (by omega), show n / 72057594037927936 % 256 + 64 * 3 = n / 72057594037927936 + 192 by omega]
    rw [show n / 1 % 256 = n % 256 by omega]; rfl
end Go.Proofs.YtnbbajiabbmdmaaGreatDoor.U8
namespace Go.Proofs.YtnbbajiabbmdmaaGreatDoor.U8
open Go.RowKit Go.Proofs.YtnbbajiabbmdmaaGreatDoor.A Go.Proofs.YtnbbajiabbmdmaaGreatDoorW.PrintWords Go.Proofs.YtnbbajiabbmdmaaGreatDoorW.PrintLast Go.Lib
set_option linter.unusedVariables false
set_option linter.unusedSimpArgs false
/-- A value that may be. -/
def okV (a0 a1 : Int) (a2 : ByteArray) : Prop :=
  (a0 = 1 ∧ -9007199254740991 ≤ a1 ∧ a1 ≤ 9007199254740991 ∧ a2.size = 0) ∨ (a0 = 2 ∧ a1 = 0 ∧ a2.size ≤ 200 ∧ validD a2.data.toList = true) ∨ (a0 = 3 ∧ (a1 = 0 ∨ a1 = 1) ∧ a2.size = 0) ∨ (a0 = 4 ∧ a1 = 0 ∧ a2.size ≤ 200)
theorem empty_beq (s : ByteArray) : (s.toList == ([] : List UInt8)) = decide (s.size = 0) := by
  have h := toList_nil s
  by_cases c : s.size = 0
  · rw [h.2 c, decide_eq_true c]; rfl
  · rw [decide_eq_false c]
    exact beq_eq_false_iff_ne.2 fun e => c (h.1 e)
theorem check_ok (a0 a1 : Int) (a2 : ByteArray) (h : okV a0 a1 a2) : value_Check.f a0 a1 a2 = some true := by
  unfold value_Check.f
  rw [empty_beq]
  rcases h with ⟨rfl, h1, h2, h3⟩ | ⟨rfl, rfl, h1, h2⟩ | ⟨rfl, h1, h2⟩ | ⟨rfl, rfl, h1⟩
  · rw [if_pos rfl, if_pos (by omega), if_pos (by omega), decide_eq_true h3]
  · rw [if_neg (by omega), if_pos rfl, if_pos rfl, if_pos (by omega), utf8_ValidString.f, if_pos (by omega), Option.bind_some, h2]
  · rw [if_neg (by omega), if_neg (by omega), if_pos rfl, decide_eq_true h2]
    rcases h1 with rfl | rfl <;> rfl
  · rw [if_neg (by omega), if_neg (by omega), if_neg (by omega), if_pos rfl, if_pos rfl, decide_eq_true (by omega)]
theorem check_no (a0 a1 : Int) (a2 : ByteArray) (h : ¬ okV a0 a1 a2) : value_Check.f a0 a1 a2 = some false := by
  unfold value_Check.f
  unfold okV at h
  rw [empty_beq]
  by_cases c1 : a0 = 1
  · subst c1
    rw [if_pos rfl]
    by_cases d1 : a1 ≥ -9007199254740991
    · rw [if_pos d1]
      by_cases d2 : a1 ≤ 9007199254740991
      · rw [if_pos d2, decide_eq_false fun e => h (.inl ⟨rfl, d1, d2, e⟩)]
      · rw [if_neg d2]
    · rw [if_neg d1]
  rw [if_neg c1]
  by_cases c2 : a0 = 2
  · subst c2
    rw [if_pos rfl]
    by_cases d1 : a1 = 0
    · rw [if_pos d1]
      by_cases d2 : (a2.size : Int) ≤ 200
      · rw [if_pos d2, utf8_ValidString.f, if_pos (by omega), Option.bind_some]
        by_cases d3 : validD a2.data.toList = true
        · exact absurd (.inr (.inl ⟨rfl, d1, by omega, d3⟩)) h
        · rw [Bool.not_eq_true] at d3; rw [d3]
      · rw [if_neg d2]
    · rw [if_neg d1]
  rw [if_neg c2]
  by_cases c3 : a0 = 3
  · subst c3
    rw [if_pos rfl]
    by_cases d1 : a1 = 0
    · rw [if_pos d1, decide_eq_false fun e => h (.inr (.inr (.inl ⟨rfl, .inl d1, e⟩)))]
    rw [if_neg d1]
    by_cases d2 : a1 = 1
    · rw [if_pos d2, decide_eq_false fun e => h (.inr (.inr (.inl ⟨rfl, .inr d2, e⟩)))]
    rw [if_neg d2]
  rw [if_neg c3]
  by_cases c4 : a0 = 4
  · subst c4
    rw [if_pos rfl]
    by_cases d1 : a1 = 0
    · rw [if_pos d1, decide_eq_false fun e => h (.inr (.inr (.inr ⟨rfl, d1, by omega⟩)))]
    rw [if_neg d1]
  rw [if_neg c4]
end Go.Proofs.YtnbbajiabbmdmaaGreatDoor.U8
namespace Go.Proofs.YtnbbajiabbmdmaaGreatDoor.U8
open Go.RowKit Go.Proofs.YtnbbajiabbmdmaaGreatDoor.A Go.Proofs.YtnbbajiabbmdmaaGreatDoorW.PrintWords Go.Proofs.YtnbbajiabbmdmaaGreatDoorW.PrintLast Go.Lib
set_option linter.unusedVariables false
set_option linter.unusedSimpArgs false
/-- A number of either sign as one without. -/
def foldN (v : Int) : Nat := if v < 0 then (-2 * v - 1).toNat else (2 * v).toNat
def unf (n : Int) : Int := if n % 2 = 1 then -(n / 2) - 1 else n / 2
theorem unf_fold (v : Int) : unf (foldN v : Int) = v := by
  unfold unf foldN
  by_cases h : v < 0
  · rw [if_pos h, if_pos (by omega)]; omega
  · rw [if_neg h, if_neg (by omega)]; omega
theorem fold_unf (n : Nat) : foldN (unf (n : Int)) = n := by
  unfold unf foldN
  by_cases h : (n : Int) % 2 = 1
  · rw [if_pos h, if_pos (by omega)]; omega
  · rw [if_neg h, if_neg (by omega)]; omega
/-- A value that may be, as bytes. -/
def textL (a0 a1 : Int) (a2 : ByteArray) : List UInt8 :=
  encN a0.toNat ++ (if a0 = 1 then encN (foldN a1) else if a0 = 3 then [UInt8.ofNat a1.toNat] else encN a2.size ++ a2.data.toList)
theorem numS (n : Nat) : (strOfNums (numB n)).data.toList = encN n := rfl
theorem numS_size (n : Nat) : (strOfNums (numB n)).size = szOf n := by rw [size_len, numS, encN_len]
theorem one1 (n : Nat) (h : n ≤ 4611686018427387903) (k : Nat) : quic_one.f (k + 20) 1 (n : Int) ⟨#[]⟩ = some (strOfNums (numB n), true) := by
  unfold quic_one.f
  rw [if_pos rfl, numq n h k, Option.bind_some, if_pos (by omega), if_pos (by omega), empty_beq]; rfl
theorem one2 (v : Int) (h0 : -9007199254740991 ≤ v) (h1 : v ≤ 9007199254740991) (k : Nat) : quic_one.f (k + 20) 2 v ⟨#[]⟩ = some (strOfNums (numB (foldN v)), true) := by
  have hw : quic_whole.f v = some true := by unfold quic_whole.f; rw [if_pos (by omega), decide_eq_true (by omega)]
  have hf : quic_fold.f v = some (foldN v : Int) := by
    unfold quic_fold.f foldN
    by_cases c : v < 0
    · rw [if_pos c, if_pos c, w64 (x := (-2) * v) (by omega) (by omega), w64 (by omega) (by omega), Int.toNat_of_nonneg (by omega)]
    · rw [if_neg c, if_neg c, w64 (by omega) (by omega), Int.toNat_of_nonneg (by omega)]
  have hn : foldN v ≤ 4611686018427387903 := by unfold foldN; split <;> omega
  unfold quic_one.f quic_Whole.f
  rw [if_neg (by omega), if_pos rfl, hw, Option.bind_some, if_pos rfl, hf, Option.bind_some, numq _ hn k, Option.bind_some, Option.bind_some, Option.bind_some, if_pos rfl, empty_beq]; rfl
theorem one3 (b : Int) (h : b = 0 ∨ b = 1) (k : Nat) : quic_one.f k 3 b ⟨#[]⟩ = some (⟨#[UInt8.ofNat b.toNat]⟩, true) := by
  unfold quic_one.f
  rw [if_neg (by omega), if_neg (by omega), if_pos rfl, Option.bind_some, empty_beq]
  rcases h with rfl | rfl <;> rfl
theorem one4 (S : ByteArray) (h : S.size ≤ 200) (k : Nat) : quic_one.f (k + 20) 4 0 S = some (strOfNums (numB S.size) ++ S, true) := by
  unfold quic_one.f quic_text.f
  have := szOf_pos S.size
  rw [if_neg (by omega), if_neg (by omega), if_neg (by omega), if_pos rfl, numq _ (by omega) k, Option.bind_some, if_pos (by rw [numS_size]; omega), Option.bind_some, if_pos (by omega)]; rfl
theorem put2 (k : Nat) (x y : S101) (a b : ByteArray) (hx : quic_one.f k x.f0 x.f1 x.f2 = some (a, true)) (hy : quic_one.f k y.f0 y.f1 y.f2 = some (b, true)) (ha : a.size ≤ 1000000) (hb : b.size ≤ 1000000) :
    quic_Put.f k ([x] ++ [y]) = some (⟨(a.data.toList ++ b.data.toList).toArray⟩, 0) := by
  unfold quic_Put.f
  show (if 2 ≤ 4096 then quic_Put.go k [x, y] [] else _) = _
  rw [if_pos (by omega), quic_Put.go, hx, Option.bind_some, if_pos rfl, if_pos (by show 0 + a.size ≤ _; omega), quic_Put.go, hy, Option.bind_some, if_pos rfl, if_pos (by rw [List.nil_append, ← size_len]; show a.size + b.size ≤ _; omega), quic_Put.go, List.nil_append]
theorem vtext_q (a0 a1 : Int) (a2 : ByteArray) (h : okV a0 a1 a2) (k : Nat) : value_Text.f (k + 20) a0 a1 a2 = some ⟨(textL a0 a1 a2).toArray⟩ := by
  unfold value_Text.f textL
  rw [check_ok _ _ _ h, Option.bind_some, if_pos rfl, Option.bind_some]
  have hl : ∀ x : S101, ([x] : List S101).length < 4398046511104 := fun x => by show 1 < _; omega
  have hz : ∀ n : Nat, (strOfNums (numB n)).size ≤ 1000 := fun n => by rw [numS_size]; have := szOf_pos n; omega
  rcases h with ⟨rfl, h1, h2, h3⟩ | ⟨rfl, rfl, h1, h2⟩ | ⟨rfl, h1, h2⟩ | ⟨rfl, rfl, h1⟩
  · rw [if_pos rfl, if_pos (hl _), put2 _ _ _ _ _ (one1 1 (by omega) k) (one2 a1 h1 h2 k) (by have := hz 1; omega) (by have := hz (foldN a1); omega), Option.bind_some, if_pos rfl]; rfl
  · rw [if_neg (by omega), if_neg (by omega), if_pos (hl _), put2 _ _ _ _ _ (one1 2 (by omega) k) (one4 a2 h1 k) (by have := hz 2; omega) (by rw [ByteArray.size_append]; have := hz a2.size; omega), Option.bind_some, if_neg (by omega), if_neg (by omega), ByteArray.data_append, Array.toList_append]; rfl
  · rw [if_neg (by omega), if_pos rfl, if_pos (hl _), put2 _ _ _ _ _ (one1 3 (by omega) k) (one3 a1 h1 (k + 20)) (by have := hz 3; omega) (by show 1 ≤ _; omega), Option.bind_some, if_neg (by omega), if_pos rfl]; rfl
  · rw [if_neg (by omega), if_neg (by omega), if_pos (hl _), put2 _ _ _ _ _ (one1 4 (by omega) k) (one4 a2 h1 k) (by have := hz 4; omega) (by rw [ByteArray.size_append]; have := hz a2.size; omega), Option.bind_some, if_neg (by omega), if_neg (by omega), ByteArray.data_append, Array.toList_append]; rfl
theorem get_ok (s : ByteArray) : 0 ≤ (getS s).1 ∧ (getS s).1 ≤ 4611686018427387903 ∧ (getS s).2.1.size ≤ s.size := by
  unfold getS
  have hp := pow_le8 (byt s.data.toList 0 / 64) (by have := byt_lt s.data.toList 0; omega)
  have hb := be_max s.data.toList (2 ^ (byt s.data.toList 0 / 64) - 1) (by omega)
  have z : (⟨#[]⟩ : ByteArray).size = 0 := rfl
  repeat' split
  all_goals (refine ⟨?_, ?_, ?_⟩)
  all_goals first | (simp only; omega) | skip
  all_goals simp [ByteArray.size_extract]
theorem and_one (x : Int) (h0 : 0 ≤ x) (h1 : x ≤ 4611686018427387903) : Go.bits .and .i64 x 1 = x % 2 := by
  have e63 : (2 : Int) ^ 63 = 9223372036854775808 := by decide
  have h := bits_mask .i64 63 (by decide) (fun n h0 h1 => by rw [e63] at h1; rw [IntKind.wrap_i64]; omega) 1 (by decide) x h0 (by omega)
  have e : ((2 : Int) ^ 1 - 1) = 1 := by decide
  rw [e] at h
  rw [h]
  rfl
/-- What is taken at the front: the manner q. -/
def takeX (s : ByteArray) (q : Int) : Int × Int × ByteArray × ByteArray × Int :=
  if q = 4 then
    (if (getS s).2.2 = 0 then
      (if (getS s).1 > 65536 then (4, 0, ⟨#[]⟩, ⟨#[]⟩, 2) else if (getS s).1 > ((getS s).2.1.size : Int) then (4, 0, ⟨#[]⟩, ⟨#[]⟩, 7)
        else (4, 0, (getS s).2.1.extract 0 (getS s).1.toNat, (getS s).2.1.extract (getS s).1.toNat (getS s).2.1.size, 0))
      else (4, 0, ⟨#[]⟩, ⟨#[]⟩, (getS s).2.2))
  else if q = 3 then (if s.size = 0 then (3, 0, ⟨#[]⟩, ⟨#[]⟩, 7) else if byt s.data.toList 0 > 1 then (3, 0, ⟨#[]⟩, ⟨#[]⟩, 3) else (3, (byt s.data.toList 0 : Int), ⟨#[]⟩, s.extract 1 s.size, 0))
  else (2, unf (getS s).1, ⟨#[]⟩, (getS s).2.1, (getS s).2.2)
theorem takeX2 (s : ByteArray) : takeX s 2 = (2, unf (getS s).1, ⟨#[]⟩, (getS s).2.1, (getS s).2.2) := rfl
theorem takeX3 (s : ByteArray) : takeX s 3 = (if s.size = 0 then (3, 0, ⟨#[]⟩, ⟨#[]⟩, 7) else if byt s.data.toList 0 > 1 then (3, 0, ⟨#[]⟩, ⟨#[]⟩, 3) else (3, (byt s.data.toList 0 : Int), ⟨#[]⟩, s.extract 1 s.size, 0)) := rfl
theorem takeX4 (s : ByteArray) : takeX s 4 = (if (getS s).2.2 = 0 then
      (if (getS s).1 > 65536 then (4, 0, ⟨#[]⟩, ⟨#[]⟩, 2) else if (getS s).1 > ((getS s).2.1.size : Int) then (4, 0, ⟨#[]⟩, ⟨#[]⟩, 7)
        else (4, 0, (getS s).2.1.extract 0 (getS s).1.toNat, (getS s).2.1.extract (getS s).1.toNat (getS s).2.1.size, 0))
      else (4, 0, ⟨#[]⟩, ⟨#[]⟩, (getS s).2.2)) := rfl
theorem take_x (s : ByteArray) (hs : s.size < 1000000) (q : Int) (hq : q = 2 ∨ q = 3 ∨ q = 4) (k : Nat) : quic_take.f (k + 12) s q = some (takeX s q) := by
  have g := qget s hs k
  have ho := get_ok s
  have n24 : ¬ (2 : Int) = 4 := by omega
  have n23 : ¬ (2 : Int) = 3 := by omega
  have n34 : ¬ (3 : Int) = 4 := by omega
  rcases hq with rfl | rfl | rfl
  · rw [takeX2]
    unfold quic_take.f quic_unfold.f unf
    rw [if_neg n24, if_neg n23, if_pos rfl, g, Option.bind_some, and_one _ ho.1 ho.2.1]
    by_cases c : (getS s).1 % 2 = 1
    · rw [if_pos c, if_pos c, Option.bind_some, w64 (x := -((getS s).1 / 2)) (by omega) (by omega), w64 (by omega) (by omega)]
    · rw [if_neg c, if_neg c, Option.bind_some]
  · rw [takeX3]
    unfold quic_take.f quic_getFlag.f
    rw [if_neg n34, if_pos rfl]
    by_cases hz : s.size = 0
    · rw [if_pos ((toList_nil s).2 hz), if_pos hz]; rfl
    rw [if_neg (fun h => hz ((toList_nil s).1 h)), if_neg hz, if_pos (show (0 : Int) < (s.size : Int) by omega), show bt s 0 = (byt s.data.toList 0 : Int) from bt_byt s 0]
    by_cases c : byt s.data.toList 0 > 1
    · rw [if_pos (show ((byt s.data.toList 0 : Nat) : Int) > 1 by omega), if_pos c]; rfl
    · rw [if_neg (show ¬ ((byt s.data.toList 0 : Nat) : Int) > 1 by omega), if_neg c, if_pos (show (1 : Int) ≤ (s.size : Int) by omega), w64 (by omega) (by omega)]; rfl
  · rw [takeX4]
    unfold quic_take.f quic_getText.f
    rw [if_pos rfl, g, Option.bind_some]
    by_cases hz : (getS s).2.2 = 0
    · rw [if_pos hz, if_pos hz]
      by_cases c1 : (getS s).1 > 65536
      · rw [if_pos c1, if_pos c1]; rfl
      rw [if_neg c1, if_neg c1]
      by_cases c2 : (getS s).1 > ((getS s).2.1.size : Int)
      · rw [if_pos c2, if_pos c2]; rfl
      · rw [if_neg c2, if_neg c2, if_pos ho.1, if_pos (show (getS s).1 ≤ ((getS s).2.1.size : Int) by omega)]; rfl
    · rw [if_neg hz, if_neg hz]; rfl
theorem takes_q (k : Nat) (s : ByteArray) (q n : Int) (S rest : ByteArray) (e : Int) (hq : 1 ≤ q ∧ q ≤ 4) (h : quic_take.f (k + 1) s q = some (q, n, S, rest, e)) :
    quic_Take.f (k + 4) s [q] = some (if e = 0 then ([⟨q, n, S⟩], rest, 0) else ([], ⟨#[]⟩, e)) := by
  have hl : (([q] : List Int).length : Int) = 1 := rfl
  have hr : rd [q] 0 = q := rfl
  have w : wrap64 (0 + 1) = 1 := by unfold wrap64; omega
  unfold quic_Take.f
  rw [hl, if_neg (by omega), quic_Take.l0, hl, if_pos (by omega), if_pos (by omega), if_pos (by omega), hr, if_neg (by omega), if_neg (by omega), w]
  rw [quic_Take.l0, if_neg (by omega), hl, quic_Take.l1, if_pos (by omega), if_pos (by omega), hl, if_pos (by omega), hr, h]
  simp only [Option.bind_some]
  by_cases hz : e = 0
  · rw [if_pos hz, if_pos hz, if_pos (by decide), w, quic_Take.l1, if_neg (by omega)]
    rfl
  · rw [if_neg hz, if_neg hz]
instance (a0 a1 : Int) (a2 : ByteArray) : Decidable (okV a0 a1 a2) := by unfold okV; infer_instance
def hw (n : Int) : Int := if n = 1 then 2 else if n = 3 then 3 else if n = 2 then 4 else if n = 4 then 4 else 0
theorem how_q (n : Int) : value_how.f n = some (hw n) := by
  unfold value_how.f hw
  repeat' split
  all_goals rfl
theorem hw_in (n : Int) : (n = 1 ∧ hw n = 2) ∨ (n = 3 ∧ hw n = 3) ∨ ((n = 2 ∨ n = 4) ∧ hw n = 4) ∨ ((n ≠ 1 ∧ n ≠ 2 ∧ n ≠ 3 ∧ n ≠ 4) ∧ hw n = 0) := by
  unfold hw
  repeat' split
  all_goals omega
theorem takeX_q (s : ByteArray) (q : Int) (hq : q = 2 ∨ q = 3 ∨ q = 4) : (takeX s q).1 = q := by
  unfold takeX
  rcases hq with rfl | rfl | rfl
  · rw [if_neg (by omega), if_neg (by omega)]
  · rw [if_neg (by omega), if_pos rfl]
    repeat' split
    all_goals rfl
  · rw [if_pos rfl]
    repeat' split
    all_goals rfl
/-- The value at the front of bytes. -/
def readX (s : ByteArray) : Int × Int × ByteArray × ByteArray × Int :=
  if (getS s).2.2 = 0 then
    (if hw (getS s).1 = 0 then (0, 0, ⟨#[]⟩, ⟨#[]⟩, 8)
    else if (takeX (getS s).2.1 (hw (getS s).1)).2.2.2.2 = 0 then
      (if okV (getS s).1 (takeX (getS s).2.1 (hw (getS s).1)).2.1 (takeX (getS s).2.1 (hw (getS s).1)).2.2.1 then
        ((getS s).1, (takeX (getS s).2.1 (hw (getS s).1)).2.1, (takeX (getS s).2.1 (hw (getS s).1)).2.2.1, (takeX (getS s).2.1 (hw (getS s).1)).2.2.2.1, 0)
      else (0, 0, ⟨#[]⟩, ⟨#[]⟩, 3))
    else (0, 0, ⟨#[]⟩, ⟨#[]⟩, (takeX (getS s).2.1 (hw (getS s).1)).2.2.2.2))
  else (0, 0, ⟨#[]⟩, ⟨#[]⟩, (getS s).2.2)
theorem read_x (s : ByteArray) (hs : s.size < 1000000) (k : Nat) : value_Read.f (k + 20) s = some (readX s) := by
  have g := qget s hs (k + 8)
  have ho := get_ok s
  unfold value_Read.f readX
  rw [show k + 20 = k + 8 + 12 by omega, g, Option.bind_some]
  by_cases hz : (getS s).2.2 = 0
  · rw [if_pos hz, if_pos hz, how_q, Option.bind_some]
    by_cases h0 : hw (getS s).1 = 0
    · rw [if_pos h0, if_pos h0]
    · rw [if_neg h0, if_neg h0, Option.bind_some]
      have hq : hw (getS s).1 = 2 ∨ hw (getS s).1 = 3 ∨ hw (getS s).1 = 4 := by have := hw_in (getS s).1; omega
      have t := take_x (getS s).2.1 (by omega) _ hq (k + 5)
      have t1 := takeX_q (getS s).2.1 _ hq
      generalize hT : takeX (getS s).2.1 (hw (getS s).1) = T at *
      obtain ⟨q, n, S, rest, e⟩ := T
      simp only at t1
      subst t1
      rw [show k + 8 + 12 = (k + 16) + 4 by omega, takes_q (k + 16) _ _ n S rest e (by omega) t, Option.bind_some]
      by_cases he : e = 0
      · subst he
        dsimp only
        rw [if_pos rfl, if_pos rfl]
        dsimp only
        rw [if_pos rfl, if_pos (by show (0 : Int) < 1; omega)]
        have r1 : rd_T101 [⟨hw (getS s).1, n, S⟩] 0 = ⟨hw (getS s).1, n, S⟩ := rfl
        rw [r1]
        dsimp only
        by_cases hv : okV (getS s).1 n S
        · rw [check_ok _ _ _ hv, Option.bind_some, if_pos rfl, if_pos hv]
        · rw [check_no _ _ _ hv, Option.bind_some, if_neg (by decide), if_neg hv]
      · dsimp only
        rw [if_neg he, if_neg he]
        dsimp only
        rw [if_neg he]
  · rw [if_neg hz, if_neg hz]
end Go.Proofs.YtnbbajiabbmdmaaGreatDoor.U8
namespace Go.Proofs.YtnbbajiabbmdmaaGreatDoor.U8
open Go.RowKit Go.Proofs.YtnbbajiabbmdmaaGreatDoor.A Go.Proofs.YtnbbajiabbmdmaaGreatDoorW.PrintWords Go.Proofs.YtnbbajiabbmdmaaGreatDoorW.PrintLast Go.Lib
set_option linter.unusedVariables false
set_option linter.unusedSimpArgs false
theorem baext {a b : ByteArray} (h : a.data.toList = b.data.toList) : a = b := by
  obtain ⟨⟨a⟩⟩ := a
  obtain ⟨⟨b⟩⟩ := b
  simp only at h
  rw [h]
theorem drop_at (l : List UInt8) (i : Nat) (h : i < l.length) : ∃ b, l.drop i = b :: l.drop (i + 1) ∧ byt l i = b.toNat := by
  refine ⟨l[i], List.drop_eq_getElem_cons h, ?_⟩
  unfold byt
  rw [List.getD_eq_getElem?_getD, List.getElem?_eq_getElem h]; rfl
theorem drop_byt (s : ByteArray) (i : Nat) (h : i < s.size) : ∃ b : UInt8, s.data.toList.drop i = b :: s.data.toList.drop (i + 1) ∧ byt s.data.toList i = b.toNat := drop_at _ i (by rw [← size_len]; exact h)
theorem byt_cons (s : ByteArray) (b : UInt8) (l : List UInt8) (h : s.data.toList = b :: l) : byt s.data.toList 0 = b.toNat ∧ s.size ≠ 0 := by
  refine ⟨by rw [h]; rfl, ?_⟩
  rw [size_len, h, List.length_cons]; omega
theorem ba_nil (s : ByteArray) (h : s.size = 0) : s = ⟨#[]⟩ := baext (List.eq_nil_of_length_eq_zero (by rw [← size_len]; exact h))
theorem ext_part (s : ByteArray) (i n : Nat) (h : i + n ≤ s.size) : (s.extract i (i + n)).data.toList = (s.data.toList.drop i).take n := by
  rw [ByteArray.data_extract, Array.toList_extract]
  simp [List.extract_eq_take_drop]
end Go.Proofs.YtnbbajiabbmdmaaGreatDoor.U8
namespace Go.Proofs.YtnbbajiabbmdmaaGreatDoor.U8
open Go.RowKit Go.Proofs.YtnbbajiabbmdmaaGreatDoor.A Go.Proofs.YtnbbajiabbmdmaaGreatDoorW.PrintWords Go.Proofs.YtnbbajiabbmdmaaGreatDoorW.PrintLast Go.Lib
set_option linter.unusedVariables false
set_option linter.unusedSimpArgs false
theorem read_at (s u rest a2 : ByteArray) (a0 a1 q : Int) (g : getS s = (a0, u, 0)) (h : hw a0 = q) (hq : q ≠ 0) (t : takeX u q = (q, a1, a2, rest, 0)) (hv : okV a0 a1 a2) : readX s = (a0, a1, a2, rest, 0) := by
  unfold readX
  rw [g]
  dsimp only
  rw [if_pos rfl, h, if_neg hq, t]
  dsimp only
  rw [if_pos rfl, if_pos hv]
theorem ext_all (s : ByteArray) (n : Nat) (a b : List UInt8) (h : s.data.toList = a ++ b) (hn : a.length = n) : (s.extract 0 n).data.toList = a ∧ (s.extract n s.size).data.toList = b := by
  refine ⟨?_, by rw [extract_toList, h, ← hn, List.drop_left]⟩
  have hl := congrArg List.length h
  rw [List.length_append, ← size_len] at hl
  have := ext_part s 0 n (by omega)
  rw [Nat.zero_add] at this
  rw [this, h, List.drop_zero, ← hn, List.take_left]
theorem read_fwd (s : ByteArray) (a0 a1 : Int) (a2 : ByteArray) (h : okV a0 a1 a2) (r : List UInt8) (he : s.data.toList = textL a0 a1 a2 ++ r) : ∃ rest : ByteArray, rest.data.toList = r ∧ readX s = (a0, a1, a2, rest, 0) := by
  have h' := h
  unfold textL at he
  rw [List.append_assoc] at he
  have ha : 0 ≤ a0 ∧ a0 ≤ 4 := by unfold okV at h; omega
  obtain ⟨g, g2, g3⟩ := get_fwd s a0.toNat (by omega) _ he
  rw [Int.toNat_of_nonneg ha.1] at g
  rw [← extract_toList] at g2
  generalize s.extract (szOf a0.toNat) s.size = u at *
  rcases h with ⟨rfl, h1, h2, h3⟩ | ⟨rfl, rfl, h1, h2⟩ | ⟨rfl, h1, h2⟩ | ⟨rfl, rfl, h1⟩
  · rw [if_pos rfl] at g2
    have hf : foldN a1 ≤ 4611686018427387903 := by unfold foldN; split <;> omega
    obtain ⟨k1, k2, k3⟩ := get_fwd u (foldN a1) hf r g2
    refine ⟨u.extract (szOf (foldN a1)) u.size, by rw [extract_toList]; exact k2, ?_⟩
    refine read_at s u _ a2 1 a1 2 g rfl (by omega) ?_ h'
    rw [takeX2, k1, unf_fold, ba_nil a2 h3]
  · rw [if_neg (by omega), if_neg (by omega), List.append_assoc] at g2
    have hp := szOf_pos a2.size
    obtain ⟨k1, k2, k3⟩ := get_fwd u a2.size (by omega) _ g2
    rw [← extract_toList] at k2
    generalize u.extract (szOf a2.size) u.size = v at *
    obtain ⟨m1, m2⟩ := ext_all v a2.size _ _ k2 (size_len a2).symm
    have hl := congrArg List.length k2
    rw [List.length_append, ← size_len, ← size_len] at hl
    refine ⟨v.extract a2.size v.size, m2, ?_⟩
    refine read_at s u _ a2 2 0 4 g rfl (by omega) ?_ h'
    rw [takeX4, k1]
    dsimp only
    rw [if_pos rfl, if_neg (by omega), if_neg (by omega), Int.toNat_natCast, baext m1]
  · rw [if_neg (by omega), if_pos rfl] at g2
    obtain ⟨b0, hz⟩ := byt_cons u (UInt8.ofNat a1.toNat) r g2
    have hb : byt u.data.toList 0 = a1.toNat := by rw [b0, UInt8.toNat_ofNat']; omega
    refine ⟨u.extract 1 u.size, by rw [extract_toList, g2]; rfl, ?_⟩
    refine read_at s u _ a2 3 a1 3 g rfl (by omega) ?_ h'
    rw [takeX3, if_neg hz, if_neg (by omega), hb, Int.toNat_of_nonneg (by omega), ba_nil a2 h2]
  · rw [if_neg (by omega), if_neg (by omega), List.append_assoc] at g2
    have hp := szOf_pos a2.size
    obtain ⟨k1, k2, k3⟩ := get_fwd u a2.size (by omega) _ g2
    rw [← extract_toList] at k2
    generalize u.extract (szOf a2.size) u.size = v at *
    obtain ⟨m1, m2⟩ := ext_all v a2.size _ _ k2 (size_len a2).symm
    have hl := congrArg List.length k2
    rw [List.length_append, ← size_len, ← size_len] at hl
    refine ⟨v.extract a2.size v.size, m2, ?_⟩
    refine read_at s u _ a2 4 0 4 g rfl (by omega) ?_ h'
    rw [takeX4, k1]
    dsimp only
    rw [if_pos rfl, if_neg (by omega), if_neg (by omega), Int.toNat_natCast, baext m1]
theorem take_back (u : ByteArray) (q N : Int) (S rest : ByteArray) (hq : q = 2 ∨ q = 3 ∨ q = 4) (h : takeX u q = (q, N, S, rest, 0)) :
    u.data.toList = (if q = 2 then encN (foldN N) else if q = 3 then [UInt8.ofNat N.toNat] else encN S.size ++ S.data.toList) ++ rest.data.toList := by
  rcases hq with rfl | rfl | rfl
  · rw [takeX2] at h
    simp only [Prod.mk.injEq, true_and] at h
    obtain ⟨h1, h2, h3, h4⟩ := h
    have hg : getS u = ((getS u).1, rest, 0) := by rw [← h3, ← h4]
    obtain ⟨g1, g2, g3⟩ := get_back u _ _ hg
    have hf := fold_unf (getS u).1.toNat
    rw [Int.toNat_of_nonneg g1, h1] at hf
    rw [if_pos rfl, hf]; exact g3
  · rw [takeX3] at h
    by_cases h0 : u.size = 0
    · rw [if_pos h0] at h; simp at h
    rw [if_neg h0] at h
    by_cases h1 : byt u.data.toList 0 > 1
    · rw [if_pos h1] at h; simp at h
    rw [if_neg h1] at h
    simp only [Prod.mk.injEq, true_and] at h
    obtain ⟨rfl, rfl, rfl, _⟩ := h
    obtain ⟨b, e, hb⟩ := drop_byt u 0 (by omega)
    rw [List.drop_zero] at e
    rw [if_neg (by omega), if_pos rfl, extract_toList, Int.toNat_natCast, hb, UInt8.ofNat_toNat]
    exact e
  · rw [takeX4] at h
    by_cases h0 : (getS u).2.2 = 0
    · rw [if_pos h0] at h
      by_cases h1 : (getS u).1 > 65536
      · rw [if_pos h1] at h; simp at h
      rw [if_neg h1] at h
      by_cases h2 : (getS u).1 > ((getS u).2.1.size : Int)
      · rw [if_pos h2] at h; simp at h
      rw [if_neg h2] at h
      simp only [Prod.mk.injEq, true_and] at h
      obtain ⟨_, rfl, rfl, _⟩ := h
      have hg : getS u = ((getS u).1, (getS u).2.1, 0) := by rw [← h0]
      obtain ⟨g1, g2, g3⟩ := get_back u _ _ hg
      generalize (getS u).1 = n at *
      generalize (getS u).2.1 = v at *
      obtain ⟨m1, m2⟩ := ext_all v n.toNat (v.data.toList.take n.toNat) (v.data.toList.drop n.toNat) (List.take_append_drop ..).symm (by rw [List.length_take, ← size_len]; omega)
      rw [if_neg (by omega), if_neg (by omega), m1, m2, List.append_assoc, List.take_append_drop]
      have hsz : (v.extract 0 n.toNat).size = n.toNat := by rw [ByteArray.size_extract]; omega
      rw [hsz]; exact g3
    · rw [if_neg h0] at h
      simp only [Prod.mk.injEq, true_and] at h
      exact absurd h.2.2.2 h0
theorem eta_t (T : Int × Int × ByteArray × ByteArray × Int) (q : Int) (h1 : T.1 = q) (h2 : T.2.2.2.2 = 0) : T = (q, T.2.1, T.2.2.1, T.2.2.2.1, 0) := by
  obtain ⟨a, b, c, d, e⟩ := T
  dsimp only at h1 h2
  rw [h1, h2]
theorem read_back (s : ByteArray) (K N : Int) (S rest : ByteArray) (h : readX s = (K, N, S, rest, 0)) : okV K N S ∧ s.data.toList = textL K N S ++ rest.data.toList := by
  unfold readX at h
  by_cases h0 : (getS s).2.2 = 0
  · rw [if_pos h0] at h
    by_cases h1 : hw (getS s).1 = 0
    · rw [if_pos h1] at h; simp at h
    rw [if_neg h1] at h
    by_cases h2 : (takeX (getS s).2.1 (hw (getS s).1)).2.2.2.2 = 0
    · rw [if_pos h2] at h
      by_cases h3 : okV (getS s).1 (takeX (getS s).2.1 (hw (getS s).1)).2.1 (takeX (getS s).2.1 (hw (getS s).1)).2.2.1
      · rw [if_pos h3] at h
        simp only [Prod.mk.injEq] at h
        obtain ⟨rfl, rfl, rfl, rfl, _⟩ := h
        refine ⟨h3, ?_⟩
        have hg : getS s = ((getS s).1, (getS s).2.1, 0) := by rw [← h0]
        obtain ⟨g1, g2, g3⟩ := get_back s _ _ hg
        generalize (getS s).1 = n at *
        generalize (getS s).2.1 = u at *
        have hin := hw_in n
        have hq : hw n = 2 ∨ hw n = 3 ∨ hw n = 4 := by omega
        have ht := take_back u (hw n) _ _ _ hq (eta_t _ _ (takeX_q u (hw n) hq) h2)
        rw [g3]
        unfold textL
        rw [List.append_assoc]
        congr 1
        generalize takeX u (hw n) = T at *
        rcases hin with ⟨e1, e2⟩ | ⟨e1, e2⟩ | ⟨e1, e2⟩ | ⟨e1, e2⟩
        · rw [e2, if_pos rfl] at ht
          rw [if_pos e1]; exact ht
        · rw [e2, if_neg (by omega), if_pos rfl] at ht
          rw [if_neg (by omega), if_pos e1]; exact ht
        · rw [e2, if_neg (by omega), if_neg (by omega)] at ht
          rw [if_neg (by omega), if_neg (by omega)]; exact ht
        · exact absurd e2 h1
      · rw [if_neg h3] at h; simp at h
    · rw [if_neg h2] at h
      simp only [Prod.mk.injEq] at h
      exact absurd h.2.2.2.2 h2
  · rw [if_neg h0] at h
    simp only [Prod.mk.injEq] at h
    exact absurd h.2.2.2.2 h0
end Go.Proofs.YtnbbajiabbmdmaaGreatDoor.U8
namespace Go.Proofs.YtnbbajiabbmdmaaGreatDoor.U8
open Go.RowKit Go.Proofs.YtnbbajiabbmdmaaGreatDoor.A Go.Proofs.YtnbbajiabbmdmaaGreatDoorW.PrintWords Go.Proofs.YtnbbajiabbmdmaaGreatDoorW.PrintLast Go.Lib
set_option linter.unusedVariables false
set_option linter.unusedSimpArgs false
abbrev Itm := S101
/-- An item's bytes; a row's. -/
def itemL (x : Itm) : List UInt8 := if x.f0 = 1 then encN x.f1.toNat else if x.f0 = 3 then [UInt8.ofNat x.f1.toNat] else encN x.f2.size ++ x.f2.data.toList
def okI (x : Itm) : Prop := (x.f0 = 1 ∧ 0 ≤ x.f1 ∧ x.f1 ≤ 4611686018427387903 ∧ x.f2 = ⟨#[]⟩) ∨ (x.f0 = 3 ∧ (x.f1 = 0 ∨ x.f1 = 1) ∧ x.f2 = ⟨#[]⟩) ∨ (x.f0 = 4 ∧ x.f1 = 0 ∧ x.f2.size ≤ 65536)
def rowL (l : List Itm) : List UInt8 := (l.map itemL).flatten
def q134 (q : Int) : Prop := q = 1 ∨ q = 3 ∨ q = 4
theorem get_ev (s : ByteArray) (hs : s.size < 1000000) : Evn (fun k => quic_Get.f k s) (getS s) := Evn.of 12 (fun k hk => by
  have := qget s hs (k - 12)
  rw [show k - 12 + 12 = k by omega] at this; exact this)
theorem num_ev (n : Nat) (h : n ≤ 4611686018427387903) : Evn (fun k => quic_Num.f k (n : Int)) (bl (encN n)) := Evn.of 20 (fun k hk => by
  have := numq n h (k - 20)
  rw [show k - 20 + 20 = k by omega] at this
  rw [this]; exact congrArg some (bl_eta _).symm)
theorem one_ev (x : Itm) (h : okI x) : Evn (fun k => quic_one.f k x.f0 x.f1 x.f2) (bl (itemL x), true) := by
  obtain ⟨q, n, S⟩ := x
  rcases h with ⟨rfl, h0, h1, rfl⟩ | ⟨rfl, h0, rfl⟩ | ⟨rfl, rfl, h0⟩
  · refine Evn.of 20 (fun k hk => ?_)
    have := one1 n.toNat (by dsimp only at h1; omega) (k - 20)
    rw [show k - 20 + 20 = k by omega, Int.toNat_of_nonneg h0] at this
    show quic_one.f k 1 n ⟨#[]⟩ = _
    rw [this]
    exact congrArg (fun z => some (z, true)) (bl_eta _).symm
  · refine Evn.of 0 (fun k hk => ?_)
    show quic_one.f k 3 n ⟨#[]⟩ = _
    rw [one3 n h0 k]; rfl
  · refine Evn.of 20 (fun k hk => ?_)
    have hp := szOf_pos S.size
    have hn := numq S.size (by dsimp only at h0; omega) (k - 20)
    rw [show k - 20 + 20 = k by omega] at hn
    dsimp only at h0
    show quic_one.f k 4 0 S = _
    unfold quic_one.f quic_text.f
    rw [if_neg (by omega), if_neg (by omega), if_neg (by omega), if_pos rfl, hn, Option.bind_some, if_pos (by rw [numS_size]; omega), Option.bind_some, if_pos (by omega)]
    refine congrArg some (Prod.ext ?_ rfl)
    refine bl_ext ?_
    rw [ByteArray.data_append, Array.toList_append]; rfl
theorem item_len (x : Itm) (h : okI x) : (itemL x).length ≤ 65544 := by
  unfold itemL
  rcases h with ⟨h, _, _, _⟩ | ⟨h, _, _⟩ | ⟨h, _, hz⟩
  · rw [if_pos h, encN_len]; have := szOf_pos x.f1.toNat; omega
  · rw [if_neg (by omega), if_pos h]; show 1 ≤ 65544; omega
  · rw [if_neg (by omega), if_neg (by omega), List.length_append, encN_len, ← size_len]; have := szOf_pos x.f2.size; omega
theorem put_go : ∀ (l : List Itm) (acc : List UInt8), (∀ x ∈ l, okI x) → acc.length + 65544 * l.length ≤ 140737488355328 → Evn (fun k => quic_Put.go k l acc) (bl (acc ++ rowL l), 0)
  | [], acc, h, hl => by
    unfold rowL
    rw [List.map_nil, List.flatten_nil, List.append_nil]
    exact Evn.ret _
  | x :: l, acc, h, hl => by
    have hx := h x List.mem_cons_self
    have hi := item_len x hx
    rw [List.length_cons] at hl
    have ih := put_go l (acc ++ itemL x) (fun y hy => h y (List.mem_cons_of_mem _ hy)) (by rw [List.length_append]; omega)
    refine Evn.bind (one_ev x hx) (Evn.pos rfl (Evn.pos (by rw [bl_size]; omega) ?_))
    refine Evn.val ?_ ih
    unfold rowL
    rw [List.map_cons, List.flatten_cons, List.append_assoc]
theorem put_ev (l : List Itm) (h : ∀ x ∈ l, okI x) (hl : l.length ≤ 4096) : Evn (fun k => quic_Put.f k l) (bl (rowL l), 0) :=
  Evn.pos hl (put_go l [] h (by show 0 + _ ≤ _; omega))
/-- What is taken at the front. -/
def takeI (s : ByteArray) (q : Int) : Int × Int × ByteArray × ByteArray × Int := if q = 1 then (1, (getS s).1, ⟨#[]⟩, (getS s).2.1, (getS s).2.2) else takeX s q
def takeR : List Int → List Itm → ByteArray → List Itm × ByteArray × Int
  | [], acc, s => (acc, s, 0)
  | q :: qs, acc, s => if (takeI s q).2.2.2.2 = 0 then takeR qs (acc ++ [⟨(takeI s q).1, (takeI s q).2.1, (takeI s q).2.2.1⟩]) (takeI s q).2.2.2.1 else ([], ⟨#[]⟩, (takeI s q).2.2.2.2)
theorem take_ev (s : ByteArray) (hs : s.size < 1000000) (q : Int) (hq : q134 q) : Evn (fun k => quic_take.f k s q) (takeI s q) := by
  unfold takeI
  by_cases h1 : q = 1
  · subst h1
    rw [if_pos rfl]
    exact Evn.neg (by omega) (Evn.neg (by omega) (Evn.neg (by omega) (Evn.bind (get_ev s hs) (Evn.ret _))))
  · rw [if_neg h1]
    refine Evn.of 12 (fun k hk => ?_)
    have := take_x s hs q (by unfold q134 at hq; omega) (k - 12)
    rw [show k - 12 + 12 = k by omega] at this; exact this
theorem takeI_size (s : ByteArray) (q : Int) (hq : q134 q) : (takeI s q).2.2.2.1.size ≤ s.size := by
  have ho := (get_ok s).2.2
  unfold takeI
  rcases hq with rfl | rfl | rfl
  · rw [if_pos rfl]; exact ho
  · rw [if_neg (by omega), takeX3]
    split
    · exact Nat.zero_le _
    split
    · exact Nat.zero_le _
    · show (s.extract 1 s.size).size ≤ _
      rw [ByteArray.size_extract]; omega
  · rw [if_neg (by omega), takeX4]
    split
    · split
      · exact Nat.zero_le _
      split
      · exact Nat.zero_le _
      · show (ByteArray.extract _ _ _).size ≤ _
        rw [ByteArray.size_extract]; omega
    · exact Nat.zero_le _
theorem takeL1 (x0 : List Int) (hx : x0.length < 100000) : ∀ (qs pre : List Int) (s : ByteArray) (acc : List Itm), x0 = pre ++ qs → (∀ q ∈ qs, q134 q) → s.size < 1000000 → acc.length ≤ pre.length →
    Evn (fun k => quic_Take.l1 k s acc x0 (x0.length : Int) (pre.length : Int)) (takeR qs acc s)
  | [], pre, s, acc, e, hq, hs, ha => by
    rw [List.append_nil] at e
    subst e
    exact Evn.step (fun k => quic_Take.l1.eq_2 ..) (Evn.neg (by omega) (Evn.ret _))
  | q :: qs, pre, s, acc, e, hq, hs, ha => by
    have hlt : (pre.length : Int) < (x0.length : Int) := by rw [e]; exact ltp pre q qs
    have hrd : rd x0 (pre.length : Int) = q := by rw [e]; exact getDp pre q qs _
    have h1 := hq q List.mem_cons_self
    have hz := takeI_size s q h1
    refine Evn.step (fun k => quic_Take.l1.eq_2 ..) (Evn.pos hlt (Evn.pos (Int.natCast_nonneg _) (Evn.pos hlt ?_)))
    rw [hrd, w1p pre q (by omega), takeR]
    refine Evn.bind (take_ev s hs q h1) ?_
    by_cases h0 : (takeI s q).2.2.2.2 = 0
    · rw [if_pos h0]
      exact Evn.pos h0 (Evn.pos (by omega) (takeL1 x0 hx qs (pre ++ [q]) _ _ (by rw [e, List.append_assoc]; rfl) (fun y hy => hq y (List.mem_cons_of_mem _ hy)) (by omega) (by rw [snocLen, snocLen]; omega)))
    · rw [if_neg h0]
      exact Evn.neg h0 (Evn.ret _)
theorem takeR_ev (s : ByteArray) (hs : s.size < 1000000) (x0 : List Int) (hq : ∀ q ∈ x0, q134 q) (hx : x0.length ≤ 4096) : Evn (fun k => quic_Take.f k s x0) (takeR x0 [] s) := by
  refine Evn.neg (by omega) ?_
  refine Evn.loop (g := fun k i => quic_Take.l0 k s x0 [] x0 (x0.length : Int) i) x0 (by omega) (fun _ => True) (fun _ _ => takeR x0 [] s) ?_ ?_ x0 [] rfl trivial
  · intro _ hn
    exact Evn.step (fun k => quic_Take.l0.eq_2 ..) (Evn.neg hn (takeL1 x0 (by omega) x0 [] s [] rfl hq hs (Nat.le_refl _)))
  · intro pre x post e _ hlt h0 hw hget hmem ih
    have hrd : rd x0 (pre.length : Int) = x := hget _
    have h1 := hq x hmem
    unfold q134 at h1
    refine Evn.step (fun k => quic_Take.l0.eq_2 ..) (Evn.pos hlt (Evn.pos h0 (Evn.pos hlt ?_)))
    rw [hrd, hw]
    exact Evn.neg (by omega) (Evn.neg (by omega) (ih trivial))
theorem getS_fwd (n : Nat) (h : n ≤ 4611686018427387903) (r : List UInt8) : getS (bl (encN n ++ r)) = ((n : Int), bl r, 0) := by
  obtain ⟨g1, g2, g3⟩ := get_fwd (bl (encN n ++ r)) n h r rfl
  rw [g1]
  refine Prod.ext rfl (Prod.ext ?_ rfl)
  refine bl_ext ?_
  show ((bl (encN n ++ r)).extract (szOf n) (bl (encN n ++ r)).size).data.toList = r
  rw [extract_toList]; exact g2
theorem ofNat01 (b : Int) (h : b = 0 ∨ b = 1) : ((UInt8.ofNat b.toNat).toNat : Int) = b := by rcases h with rfl | rfl <;> rfl
theorem takeI_fwd (x : Itm) (h : okI x) (r : List UInt8) : takeI (bl (itemL x ++ r)) x.f0 = (x.f0, x.f1, x.f2, bl r, 0) := by
  obtain ⟨q, n, S⟩ := x
  unfold takeI itemL
  rcases h with ⟨rfl, h0, h1, rfl⟩ | ⟨rfl, h0, rfl⟩ | ⟨rfl, rfl, h0⟩
  · dsimp only at h0 h1 ⊢
    rw [if_pos rfl, if_pos rfl, getS_fwd _ (by omega), Int.toNat_of_nonneg h0]
  · dsimp only at h0 ⊢
    rw [if_neg (by omega), if_neg (by omega), if_pos rfl, takeX3, if_neg (by rw [bl_size, List.length_append]; show ¬ 1 + _ = 0; omega)]
    have e : byt (bl ([UInt8.ofNat n.toNat] ++ r)).data.toList 0 = (UInt8.ofNat n.toNat).toNat := rfl
    have e2 := ofNat01 n h0
    rw [e, if_neg (by omega), e2]
    refine Prod.ext rfl (Prod.ext rfl (Prod.ext rfl (Prod.ext ?_ rfl)))
    refine bl_ext ?_
    rw [extract_toList]; rfl
  · dsimp only at h0 ⊢
    rw [if_neg (by omega), if_neg (by omega), if_neg (by omega), takeX4, List.append_assoc, getS_fwd _ (by omega)]
    dsimp only
    have hz : (bl (S.data.toList ++ r)).size = S.size + r.length := by rw [bl_size, List.length_append, ← size_len]
    rw [if_pos rfl, if_neg (by omega), if_neg (by omega), Int.toNat_natCast]
    obtain ⟨m1, m2⟩ := ext_all (bl (S.data.toList ++ r)) S.size _ _ rfl (size_len S).symm
    refine Prod.ext rfl (Prod.ext rfl (Prod.ext (bl_ext m1) (Prod.ext (bl_ext m2) rfl)))
theorem takeI_back (s : ByteArray) (q : Int) (hq : q134 q) (h : (takeI s q).2.2.2.2 = 0) :
    okI ⟨(takeI s q).1, (takeI s q).2.1, (takeI s q).2.2.1⟩ ∧ (takeI s q).1 = q ∧ s.data.toList = itemL ⟨(takeI s q).1, (takeI s q).2.1, (takeI s q).2.2.1⟩ ++ (takeI s q).2.2.2.1.data.toList := by
  unfold takeI at h ⊢
  rcases hq with rfl | rfl | rfl
  · rw [if_pos rfl] at h ⊢
    dsimp only at h ⊢
    obtain ⟨g1, g2, g3⟩ := get_back s (getS s).1 (getS s).2.1 (by rw [← h])
    exact ⟨.inl ⟨rfl, g1, g2, rfl⟩, rfl, by unfold itemL; rw [if_pos rfl]; exact g3⟩
  · rw [if_neg (by omega)] at h ⊢
    have hb := take_back s 3 (takeX s 3).2.1 (takeX s 3).2.2.1 (takeX s 3).2.2.2.1 (by omega) (eta_t _ 3 (takeX_q s 3 (by omega)) h)
    rw [if_neg (by omega), if_pos rfl] at hb
    rw [takeX_q s 3 (by omega)]
    refine ⟨.inr (.inl ?_), rfl, by unfold itemL; rw [if_neg (by show ¬ (3 : Int) = 1; omega), if_pos rfl]; exact hb⟩
    dsimp only
    rw [takeX3] at h ⊢
    by_cases h0 : s.size = 0
    · rw [if_pos h0] at h; exact absurd h (by decide)
    rw [if_neg h0] at h ⊢
    by_cases h1 : byt s.data.toList 0 > 1
    · rw [if_pos h1] at h; exact absurd h (by decide)
    rw [if_neg h1]
    exact ⟨rfl, by show ((byt s.data.toList 0 : Nat) : Int) = 0 ∨ ((byt s.data.toList 0 : Nat) : Int) = 1; omega, rfl⟩
  · rw [if_neg (by omega)] at h ⊢
    have hb := take_back s 4 (takeX s 4).2.1 (takeX s 4).2.2.1 (takeX s 4).2.2.2.1 (by omega) (eta_t _ 4 (takeX_q s 4 (by omega)) h)
    rw [if_neg (by omega), if_neg (by omega)] at hb
    rw [takeX_q s 4 (by omega)]
    refine ⟨.inr (.inr ?_), rfl, by unfold itemL; rw [if_neg (by show ¬ (4 : Int) = 1; omega), if_neg (by show ¬ (4 : Int) = 3; omega)]; exact hb⟩
    dsimp only
    rw [takeX4] at h ⊢
    by_cases h0 : (getS s).2.2 = 0
    · rw [if_pos h0] at h ⊢
      by_cases h1 : (getS s).1 > 65536
      · rw [if_pos h1] at h; exact absurd h (by decide)
      rw [if_neg h1] at h ⊢
      by_cases h2 : (getS s).1 > ((getS s).2.1.size : Int)
      · rw [if_pos h2] at h; exact absurd h (by decide)
      rw [if_neg h2]
      refine ⟨rfl, rfl, ?_⟩
      show (ByteArray.extract _ _ _).size ≤ _
      rw [ByteArray.size_extract]; omega
    · rw [if_neg h0] at h; exact absurd h h0
theorem takeR_fwd : ∀ (l : List Itm) (acc : List Itm) (r : List UInt8), (∀ x ∈ l, okI x) → takeR (l.map (·.f0)) acc (bl (rowL l ++ r)) = (acc ++ l, bl r, 0)
  | [], acc, r, h => by rw [List.append_nil]; rfl
  | x :: l, acc, r, h => by
    have e : rowL (x :: l) ++ r = itemL x ++ (rowL l ++ r) := by unfold rowL; rw [List.map_cons, List.flatten_cons, List.append_assoc]
    have ih := takeR_fwd l (acc ++ [x]) r (fun y hy => h y (List.mem_cons_of_mem _ hy))
    rw [List.map_cons, e, takeR, takeI_fwd x (h x List.mem_cons_self)]
    dsimp only
    rw [if_pos rfl, ih, List.append_assoc]; rfl
theorem takeR_back : ∀ (qs : List Int) (acc : List Itm) (s : ByteArray) (row : List Itm) (rest : ByteArray), (∀ q ∈ qs, q134 q) → takeR qs acc s = (row, rest, 0) → ∃ l, row = acc ++ l ∧ l.map (·.f0) = qs ∧ (∀ x ∈ l, okI x) ∧ s.data.toList = rowL l ++ rest.data.toList
  | [], acc, s, row, rest, hq, h => by
    rw [takeR] at h
    simp only [Prod.mk.injEq] at h
    obtain ⟨rfl, rfl, _⟩ := h
    exact ⟨[], (List.append_nil _).symm, rfl, (fun x hx => by cases hx), rfl⟩
  | q :: qs, acc, s, row, rest, hq, h => by
    rw [takeR] at h
    by_cases h0 : (takeI s q).2.2.2.2 = 0
    · rw [if_pos h0] at h
      obtain ⟨k1, k2, k3⟩ := takeI_back s q (hq q List.mem_cons_self) h0
      obtain ⟨l, e1, e2, e3, e4⟩ := takeR_back qs _ _ row rest (fun y hy => hq y (List.mem_cons_of_mem _ hy)) h
      refine ⟨⟨(takeI s q).1, (takeI s q).2.1, (takeI s q).2.2.1⟩ :: l, ?_, ?_, ?_, ?_⟩
      · rw [e1, List.append_assoc]; rfl
      · rw [List.map_cons, e2]; exact congrArg (fun z => z :: qs) k2
      · intro x hx
        rcases List.mem_cons.1 hx with rfl | hx
        · exact k1
        · exact e3 x hx
      · unfold rowL at e4 ⊢
        rw [k3, e4, List.map_cons, List.flatten_cons, List.append_assoc]
    · rw [if_neg h0] at h
      obtain ⟨_, h⟩ := Prod.mk.inj h
      obtain ⟨_, h⟩ := Prod.mk.inj h
      exact absurd h h0
theorem takeR_size : ∀ (qs : List Int) (acc : List Itm) (s : ByteArray), (∀ q ∈ qs, q134 q) → (takeR qs acc s).2.1.size ≤ s.size
  | [], acc, s, hq => Nat.le_refl _
  | q :: qs, acc, s, hq => by
    rw [takeR]
    have h1 := takeI_size s q (hq q List.mem_cons_self)
    split
    · exact Nat.le_trans (takeR_size qs _ _ (fun y hy => hq y (List.mem_cons_of_mem _ hy))) h1
    · exact Nat.zero_le _
end Go.Proofs.YtnbbajiabbmdmaaGreatDoor.U8
namespace Go.Proofs.YtnbbajiabbmdmaaGreatDoor.U8
open Go.RowKit Go.Proofs.YtnbbajiabbmdmaaGreatDoor.A Go.Proofs.YtnbbajiabbmdmaaGreatDoorW.PrintWords Go.Proofs.YtnbbajiabbmdmaaGreatDoorW.PrintLast Go.Lib
set_option linter.unusedVariables false
set_option linter.unusedSimpArgs false
/-- A field's items, a schema's, their bytes. -/
def flagI (b : Bool) : Int := if b = true then 1 else 0
def itemsF (x : Fld) : List Itm := [⟨4, 0, x.f0⟩, ⟨1, x.f1, ⟨#[]⟩⟩, ⟨3, flagI x.f2, ⟨#[]⟩⟩]
def encFs (l : List Fld) : List UInt8 := (l.map (fun x => rowL (itemsF x))).flatten
def schemaT (l : List Fld) : List UInt8 := encN l.length ++ encFs l
def textB (l : List Fld) : ByteArray := if checkF l = true then bl (schemaT l) else bl []
theorem encFs_cons (x : Fld) (l : List Fld) : encFs (x :: l) = rowL (itemsF x) ++ encFs l := rfl
theorem encFs_app (a b : List Fld) : encFs (a ++ b) = encFs a ++ encFs b := by unfold encFs; rw [List.map_append, List.flatten_append]
theorem rowL_app (a b : List Itm) : rowL (a ++ b) = rowL a ++ rowL b := by unfold rowL; rw [List.map_append, List.flatten_append]
theorem flag_q (b : Bool) : schema_flag.f b = some (flagI b) := by
  unfold schema_flag.f flagI
  cases b <;> rfl
theorem flag_01 (b : Bool) : flagI b = 0 ∨ flagI b = 1 := by cases b <;> decide
theorem flag_beq (b : Bool) : (flagI b == 1) = b := by cases b <;> rfl
theorem itemsF_ok (x : Fld) (h1 : 0 ≤ x.f1) (h4 : x.f1 ≤ 4611686018427387903) (hs : x.f0.size ≤ 65536) : ∀ i ∈ itemsF x, okI i := by
  intro i hi
  unfold itemsF at hi
  rcases List.mem_cons.1 hi with rfl | hi
  · exact .inr (.inr ⟨rfl, rfl, hs⟩)
  rcases List.mem_cons.1 hi with rfl | hi
  · exact .inl ⟨rfl, h1, h4, rfl⟩
  rcases List.mem_cons.1 hi with rfl | hi
  · exact .inr (.inl ⟨rfl, flag_01 _, rfl⟩)
  · cases hi
theorem schemaText_q (l : List Fld) (hs : ∀ x ∈ l, x.f0.size < 20000) (hl : l.length < 100000) : Evn (fun k => schema_Text.f k l) (textB l) := by
  unfold textB
  refine Evn.bind (check_q l hs hl) ?_
  by_cases h : checkF l = true
  · obtain ⟨ha, h24⟩ := checkF_all l h
    rw [if_pos h]
    refine Evn.pos h ?_
    have hok : ∀ x ∈ l, ∀ i ∈ itemsF x, okI i := fun x hx => itemsF_ok x (by have := (ha x hx).2.1; omega) (by have := (ha x hx).2.2; omega) (by have := hs x hx; omega)
    have key : ∀ (post pre : List Fld) (row : List Itm), l = pre ++ post → rowL row = encN l.length ++ encFs pre → (∀ i ∈ row, okI i) → row.length = 1 + 3 * pre.length →
        Evn (fun k => schema_Text.l0 k row l (l.length : Int) (pre.length : Int)) (bl (schemaT l)) := by
      intro post
      induction post with
      | nil =>
        intro pre row e hr ho hn
        rw [List.append_nil] at e
        subst e
        refine Evn.step (fun k => schema_Text.l0.eq_2 ..) (Evn.neg (by omega) (Evn.bind (put_ev row ho (by omega)) ?_))
        refine Evn.con ?_
        show some (bl (rowL row)) = _
        rw [hr]; rfl
      | cons x post ih =>
        intro pre row e hr ho hn
        have hx : x ∈ l := by rw [e]; simp
        have hlt : (pre.length : Int) < (l.length : Int) := by rw [e]; exact ltp pre x post
        have hrd : rd_T62 l (pre.length : Int) = x := by rw [e]; exact getDp pre x post _
        have := ih (pre ++ [x]) (row ++ itemsF x) (by rw [e, List.append_assoc]; rfl) (by rw [rowL_app, hr, encFs_app, List.append_assoc]; show _ = encN l.length ++ (encFs pre ++ (rowL (itemsF x) ++ encFs [])); rw [show encFs [] = [] from rfl, List.append_nil]) (fun i hi => by
          rcases List.mem_append.1 hi with hi | hi
          · exact ho i hi
          · exact hok x hx i hi) (by rw [List.length_append, snocLen]; show row.length + 3 = _; omega)
        refine Evn.step (fun k => schema_Text.l0.eq_2 ..) (Evn.pos hlt (Evn.pos (Int.natCast_nonneg _) (Evn.pos hlt ?_)))
        rw [hrd, w1p pre x (by omega)]
        exact Evn.bc (flag_q x.f2) (Evn.bc rfl (Evn.pos (by show row.length + 3 < _; omega) this))
    refine key l [] [⟨1, (l.length : Int), ⟨#[]⟩⟩] rfl ?_ ?_ rfl
    · show encN ((l.length : Int)).toNat ++ [] = _
      rw [Int.toNat_natCast]; rfl
    · intro i hi
      rw [List.mem_singleton.1 hi]
      exact .inl ⟨rfl, Int.natCast_nonneg _, by show (l.length : Int) ≤ _; omega, rfl⟩
  · rw [if_neg h]
    exact Evn.neg h (Evn.ret _)
def fldOf (row : List Itm) : Fld := ⟨(rd_T101 row 0).f2, (rd_T101 row 1).f1, ((rd_T101 row 2).f1) == 1⟩
def readFs : Nat → List Fld → ByteArray → List Fld × ByteArray × Int
  | 0, acc, s => if checkF acc = true then (acc, s, 0) else ([], ⟨#[]⟩, 3)
  | m + 1, acc, s => if (takeR [4, 1, 3] [] s).2.2 = 0 then readFs m (acc ++ [fldOf (takeR [4, 1, 3] [] s).1]) (takeR [4, 1, 3] [] s).2.1 else ([], ⟨#[]⟩, (takeR [4, 1, 3] [] s).2.2)
def readF (s : ByteArray) : List Fld × ByteArray × Int := if (getS s).2.2 = 0 then (if (getS s).1 > 24 then ([], ⟨#[]⟩, 2) else readFs (getS s).1.toNat [] (getS s).2.1) else ([], ⟨#[]⟩, (getS s).2.2)
theorem q413 : ∀ q ∈ ([4, 1, 3] : List Int), q134 q := by
  intro q hq
  unfold q134
  simp only [List.mem_cons, List.not_mem_nil, or_false] at hq
  omega
theorem row3 (l : List Itm) (h : l.map (·.f0) = [4, 1, 3]) (ho : ∀ x ∈ l, okI x) : l = itemsF (fldOf l) ∧ 0 ≤ (fldOf l).f1 ∧ (fldOf l).f1 ≤ 4611686018427387903 ∧ (fldOf l).f0.size ≤ 65536 := by
  have hl3 : l.length = 3 := by rw [← List.length_map (f := fun x : Itm => x.f0), h]; rfl
  obtain ⟨a, b, c, rfl⟩ : ∃ a b c, l = [a, b, c] := by
    match l, hl3 with
    | [a, b, c], _ => exact ⟨a, b, c, rfl⟩
  · have h : [a.f0, b.f0, c.f0] = [4, 1, 3] := h
    simp only [List.cons.injEq, and_true] at h
    obtain ⟨ha, hb, hc⟩ := h
    have oa := ho a (by simp)
    have ob := ho b (by simp)
    have oc := ho c (by simp)
    obtain ⟨a0, a1, a2⟩ := a
    obtain ⟨b0, b1, b2⟩ := b
    obtain ⟨c0, c1, c2⟩ := c
    dsimp only at ha hb hc
    subst ha hb hc
    have ka : a1 = 0 ∧ a2.size ≤ 65536 := by
      rcases oa with ⟨h, _⟩ | ⟨h, _⟩ | ⟨_, h, h'⟩
      · exact absurd h (show ¬ (4 : Int) = 1 by decide)
      · exact absurd h (show ¬ (4 : Int) = 3 by decide)
      · exact ⟨h, h'⟩
    have kb : 0 ≤ b1 ∧ b1 ≤ 4611686018427387903 ∧ b2 = ⟨#[]⟩ := by
      rcases ob with ⟨_, h⟩ | ⟨h, _⟩ | ⟨h, _⟩
      · exact h
      · exact absurd h (show ¬ (1 : Int) = 3 by decide)
      · exact absurd h (show ¬ (1 : Int) = 4 by decide)
    have kc : (c1 = 0 ∨ c1 = 1) ∧ c2 = ⟨#[]⟩ := by
      rcases oc with ⟨h, _⟩ | ⟨_, h⟩ | ⟨h, _⟩
      · exact absurd h (show ¬ (3 : Int) = 1 by decide)
      · exact h
      · exact absurd h (show ¬ (3 : Int) = 4 by decide)
    obtain ⟨rfl, ka⟩ := ka
    obtain ⟨kb1, kb2, rfl⟩ := kb
    obtain ⟨kc, rfl⟩ := kc
    have hf : flagI (c1 == 1) = c1 := by rcases kc with rfl | rfl <;> rfl
    refine ⟨?_, kb1, kb2, ka⟩
    show (_ : List Itm) = ([⟨4, 0, a2⟩, ⟨1, b1, ⟨#[]⟩⟩, ⟨3, flagI (c1 == 1), ⟨#[]⟩⟩] : List Itm)
    rw [hf]
theorem fldOf_items (x : Fld) : fldOf (itemsF x) = x := by
  show (⟨x.f0, x.f1, flagI x.f2 == 1⟩ : Fld) = x
  rw [flag_beq]
theorem readFs_ev (n : Nat) (hn : n ≤ 24) : ∀ (m i : Nat) (acc : List Fld) (s : ByteArray), i + m = n → acc.length = i → s.size < 15000 → (∀ x ∈ acc, x.f0.size < 20000) → Evn (fun k => schema_Read.l0 k acc s (n : Int) (i : Int)) (readFs m acc s)
  | 0, i, acc, s, hi, ha, hs, hz => by
    refine Evn.step (fun k => schema_Read.l0.eq_2 ..) (Evn.neg (by omega) (Evn.bind (check_q acc hz (by omega)) ?_))
    unfold readFs
    by_cases h : checkF acc = true
    · exact Evn.val (by rw [if_pos h]) (Evn.pos h (Evn.ret _))
    · exact Evn.val (by rw [if_neg h]) (Evn.neg h (Evn.ret _))
  | m + 1, i, acc, s, hi, ha, hs, hz => by
    have hw : wrap64 ((i : Int) + 1) = ((i + 1 : Nat) : Int) := by unfold wrap64; omega
    refine Evn.step (fun k => schema_Read.l0.eq_2 ..) (Evn.pos (by omega) (Evn.bind (takeR_ev s (by omega) [4, 1, 3] q413 (by decide)) ?_))
    rw [hw, readFs]
    by_cases h0 : (takeR [4, 1, 3] [] s).2.2 = 0
    · obtain ⟨l, e1, e2, e3, e4⟩ := takeR_back [4, 1, 3] [] s (takeR [4, 1, 3] [] s).1 (takeR [4, 1, 3] [] s).2.1 q413 (by rw [← h0])
      rw [List.nil_append] at e1
      have hlen : (takeR [4, 1, 3] [] s).1.length = 3 := by rw [e1, ← List.length_map (f := fun x : Itm => x.f0), e2]; rfl
      have hsz := takeR_size [4, 1, 3] [] s q413
      obtain ⟨_, _, _, r4⟩ := row3 l e2 e3
      have hfs : (fldOf l).f0.size ≤ s.size := by
        have e5 := (row3 l e2 e3).1
        have h5 := congrArg List.length e4
        rw [List.length_append, e5] at h5
        have : rowL (itemsF (fldOf l)) = (encN (fldOf l).f0.size ++ (fldOf l).f0.data.toList) ++ rowL [⟨1, (fldOf l).f1, ⟨#[]⟩⟩, ⟨3, flagI (fldOf l).f2, ⟨#[]⟩⟩] := rfl
        rw [this, List.length_append, List.length_append, ← size_len, ← size_len, ← size_len] at h5
        omega
      rw [if_pos h0]
      refine Evn.pos h0 (Evn.pos (by omega) (Evn.pos (by omega) (Evn.pos (by omega) (Evn.pos (by omega) ?_))))
      refine readFs_ev n hn m (i + 1) _ _ (by omega) (by rw [snocLen, ha]) (by omega) (fun x hx => ?_)
      rcases List.mem_append.1 hx with hx | hx
      · exact hz x hx
      · have hq : x = fldOf l := by rw [List.mem_singleton.1 hx, e1]; rfl
        rw [hq]; omega
    · rw [if_neg h0]
      exact Evn.neg h0 (Evn.ret _)
theorem schemaRead_q (s : ByteArray) (hs : s.size < 15000) : Evn (fun k => schema_Read.f k s) (readF s) := by
  have ho := get_ok s
  unfold readF
  refine Evn.bind (get_ev s (by omega)) ?_
  by_cases h0 : (getS s).2.2 = 0
  · rw [if_pos h0]
    refine Evn.pos h0 ?_
    by_cases h1 : (getS s).1 > 24
    · rw [if_pos h1]
      exact Evn.pos h1 (Evn.ret _)
    · rw [if_neg h1]
      have := readFs_ev (getS s).1.toNat (by omega) (getS s).1.toNat 0 [] (getS s).2.1 (by omega) rfl (by omega) (fun x hx => by cases hx)
      rw [Int.toNat_of_nonneg ho.1] at this
      exact Evn.neg h1 this
  · rw [if_neg h0]
    exact Evn.neg h0 (Evn.ret _)
theorem readFs_fwd (r : List UInt8) : ∀ (l acc : List Fld), checkF (acc ++ l) = true → (∀ x ∈ l, 0 ≤ x.f1 ∧ x.f1 ≤ 4611686018427387903 ∧ x.f0.size ≤ 65536) → readFs l.length acc (bl (encFs l ++ r)) = (acc ++ l, bl r, 0)
  | [], acc, h, ho => by
    rw [List.append_nil] at h ⊢
    show (if checkF acc = true then (acc, bl r, (0 : Int)) else _) = _
    rw [if_pos h]
  | x :: l, acc, h, ho => by
    obtain ⟨o1, o2, o3⟩ := ho x List.mem_cons_self
    have ht := takeR_fwd (itemsF x) [] (encFs l ++ r) (itemsF_ok x o1 o2 o3)
    have ih := readFs_fwd r l (acc ++ [x]) (by rw [List.append_assoc]; exact h) (fun y hy => ho y (List.mem_cons_of_mem _ hy))
    have e : (itemsF x).map (·.f0) = [4, 1, 3] := rfl
    rw [e, List.nil_append] at ht
    rw [List.length_cons, encFs_cons, List.append_assoc, readFs, ht]
    dsimp only
    rw [if_pos rfl, fldOf_items, ih, List.append_assoc]; rfl
theorem readF_fwd (l : List Fld) (h : checkF l = true) (hs : ∀ x ∈ l, x.f0.size < 20000) (r : List UInt8) : readF (bl (schemaT l ++ r)) = (l, bl r, 0) := by
  obtain ⟨ha, h24⟩ := checkF_all l h
  unfold readF schemaT
  rw [List.append_assoc, getS_fwd _ (by omega)]
  dsimp only
  rw [if_pos rfl, if_neg (by omega), Int.toNat_natCast, readFs_fwd r l [] h (fun x hx => ⟨by have := (ha x hx).2.1; omega, by have := (ha x hx).2.2; omega, by have := hs x hx; omega⟩)]; rfl
end Go.Proofs.YtnbbajiabbmdmaaGreatDoor.U8
namespace Go.Proofs.YtnbbajiabbmdmaaGreatDoor.U8
open Go.RowKit Go.Proofs.YtnbbajiabbmdmaaGreatDoor.A Go.Proofs.YtnbbajiabbmdmaaGreatDoorW.PrintWords Go.Proofs.YtnbbajiabbmdmaaGreatDoorW.PrintLast Go.Lib
set_option linter.unusedVariables false
set_option linter.unusedSimpArgs false
/-- An attribute's bytes, those of attributes. -/
def encA (x : Att) : List UInt8 := (encN x.f0.size ++ x.f0.data.toList) ++ textL x.f1.f0 x.f1.f1 x.f1.f2
def encAs (l : List Att) : List UInt8 := (l.map encA).flatten
def attrsT (l : List Att) : List UInt8 := encN l.length ++ encAs l
def attrB (l : List Att) : ByteArray := if checkA l = true then bl (attrsT l) else bl []
theorem valB_ok (n i : Int) (s : ByteArray) (h : valB n i s = true) : okV n i s := by
  by_cases hv : okV n i s
  · exact hv
  · have := check_no n i s hv
    rw [val_q, h] at this
    exact absurd (Option.some.inj this) (by decide)
theorem checkA_all (l : List Att) (h : checkA l = true) : (∀ x ∈ l, simpleB x.f0 = true ∧ okV x.f1.f0 x.f1.f1 x.f1.f2) ∧ l.length ≤ 24 := by
  unfold checkA at h
  rw [Bool.and_eq_true, decide_eq_true_eq] at h
  refine ⟨fun x hx => ?_, h.2⟩
  have h1 := ordB_all _ _ l none h.1 x hx
  unfold attX at h1
  rw [Bool.and_eq_true] at h1
  exact ⟨h1.1, valB_ok _ _ _ h1.2⟩
theorem textL_len (a0 a1 : Int) (a2 : ByteArray) (h : okV a0 a1 a2) : (textL a0 a1 a2).length ≤ 300 := by
  unfold textL
  have h1 := szOf_pos a0.toNat
  have h2 := szOf_pos (foldN a1)
  have h3 := szOf_pos a2.size
  rw [List.length_append, encN_len]
  unfold okV at h
  split
  · rw [encN_len]; omega
  split
  · show _ + 1 ≤ 300; omega
  · rw [List.length_append, encN_len, ← size_len]; omega
theorem vtext_ev (a0 a1 : Int) (a2 : ByteArray) (h : okV a0 a1 a2) : Evn (fun k => value_Text.f k a0 a1 a2) (bl (textL a0 a1 a2)) := Evn.of 20 (fun k hk => by
  have := vtext_q a0 a1 a2 h (k - 20)
  rw [show k - 20 + 20 = k by omega] at this; exact this)
theorem vread_ev (s : ByteArray) (hs : s.size < 1000000) : Evn (fun k => value_Read.f k s) (readX s) := Evn.of 20 (fun k hk => by
  have := read_x s hs (k - 20)
  rw [show k - 20 + 20 = k by omega] at this; exact this)
theorem attr_go : ∀ (l : List Att) (acc : List UInt8), (∀ x ∈ l, okV x.f1.f0 x.f1.f1 x.f1.f2) → (∀ x ∈ l, x.f0.size < 20000) → acc.length + 21000 * l.length ≤ 140737488355328 → Evn (fun k => schema_AttrText.go k l acc) (bl (acc ++ encAs l))
  | [], acc, hv, hs, hl => by
    show Evn _ (bl (acc ++ []))
    rw [List.append_nil]
    exact Evn.ret _
  | x :: l, acc, hv, hs, hl => by
    have hx := hv x List.mem_cons_self
    have hsx := hs x List.mem_cons_self
    have ht := textL_len _ _ _ hx
    have hn := szOf_pos x.f0.size
    rw [List.length_cons] at hl
    have ih := attr_go l (acc ++ encA x) (fun y hy => hv y (List.mem_cons_of_mem _ hy)) (fun y hy => hs y (List.mem_cons_of_mem _ hy)) (by
      unfold encA
      rw [List.length_append, List.length_append, List.length_append, encN_len, ← size_len]; omega)
    have e : ((bl (encN x.f0.size) ++ x.f0) ++ bl (textL x.f1.f0 x.f1.f1 x.f1.f2)).data.toList = encA x := by
      rw [bl_appl, bl_app]; rfl
    refine Evn.bind (num_ev x.f0.size (by omega)) (Evn.bind (vtext_ev _ _ _ hx) (Evn.pos (by show acc.length + ((encN x.f0.size).length + x.f0.size + (textL x.f1.f0 x.f1.f1 x.f1.f2).length) ≤ _; rw [encN_len]; omega) ?_))
    rw [e]
    refine Evn.val ?_ ih
    show bl (acc ++ encA x ++ encAs l) = bl (acc ++ (encA x ++ encAs l))
    rw [List.append_assoc]
theorem attrText_q (l : List Att) (hs : ∀ x ∈ l, x.f0.size < 20000) (hl : l.length < 100000) : Evn (fun k => schema_AttrText.f k l) (attrB l) := by
  unfold attrB
  refine Evn.bind (attrs_q l hs hl) ?_
  by_cases h : checkA l = true
  · obtain ⟨ha, h24⟩ := checkA_all l h
    have hn := szOf_pos l.length
    rw [if_pos h]
    exact Evn.pos h (Evn.bind (num_ev l.length (by omega)) (Evn.pos (by rw [bl_size, encN_len]; omega) (attr_go l (encN l.length) (fun x hx => (ha x hx).2) hs (by rw [encN_len]; omega))))
  · rw [if_neg h]
    exact Evn.neg h (Evn.ret _)
def attOf (row : List Itm) (v : Int × Int × ByteArray × ByteArray × Int) : Att := ⟨(rd_T101 row 0).f2, ⟨v.1, v.2.1, v.2.2.1⟩⟩
def readAs : Nat → List Att → ByteArray → List Att × ByteArray × Int
  | 0, acc, s => if checkA acc = true then (acc, s, 0) else ([], ⟨#[]⟩, 3)
  | m + 1, acc, s => if (takeR [4] [] s).2.2 = 0 then (if (readX (takeR [4] [] s).2.1).2.2.2.2 = 0 then readAs m (acc ++ [attOf (takeR [4] [] s).1 (readX (takeR [4] [] s).2.1)]) (readX (takeR [4] [] s).2.1).2.2.2.1 else ([], ⟨#[]⟩, (readX (takeR [4] [] s).2.1).2.2.2.2)) else ([], ⟨#[]⟩, (takeR [4] [] s).2.2)
def readA (s : ByteArray) : List Att × ByteArray × Int := if (getS s).2.2 = 0 then (if (getS s).1 > 24 then ([], ⟨#[]⟩, 2) else readAs (getS s).1.toNat [] (getS s).2.1) else ([], ⟨#[]⟩, (getS s).2.2)
theorem q4 : ∀ q ∈ ([4] : List Int), q134 q := by
  intro q hq
  unfold q134
  simp only [List.mem_cons, List.not_mem_nil, or_false] at hq
  omega
theorem row1 (l : List Itm) (h : l.map (·.f0) = [4]) (ho : ∀ x ∈ l, okI x) : l = [⟨4, 0, (rd_T101 l 0).f2⟩] ∧ (rd_T101 l 0).f2.size ≤ 65536 := by
  have hl1 : l.length = 1 := by rw [← List.length_map (f := fun x : Itm => x.f0), h]; rfl
  obtain ⟨a, rfl⟩ : ∃ a, l = [a] := by
    match l, hl1 with
    | [a], _ => exact ⟨a, rfl⟩
  have h : [a.f0] = [4] := h
  simp only [List.cons.injEq, and_true] at h
  have oa := ho a (by simp)
  obtain ⟨a0, a1, a2⟩ := a
  dsimp only at h
  subst h
  rcases oa with ⟨h, _⟩ | ⟨h, _⟩ | ⟨_, h, h'⟩
  · exact absurd h (show ¬ (4 : Int) = 1 by decide)
  · exact absurd h (show ¬ (4 : Int) = 3 by decide)
  · dsimp only at h
    subst h
    exact ⟨rfl, h'⟩
theorem readX_ok (s : ByteArray) (h : (readX s).2.2.2.2 = 0) : okV (readX s).1 (readX s).2.1 (readX s).2.2.1 ∧ s.data.toList = textL (readX s).1 (readX s).2.1 (readX s).2.2.1 ++ (readX s).2.2.2.1.data.toList :=
  read_back s _ _ _ _ (by rw [← h])
theorem size_of_app (s : ByteArray) (a : List UInt8) (t : ByteArray) (h : s.data.toList = a ++ t.data.toList) : t.size ≤ s.size ∧ a.length ≤ s.size := by
  have := congrArg List.length h
  rw [List.length_append, ← size_len, ← size_len] at this
  omega
theorem readAs_ev (n : Nat) (hn : n ≤ 24) : ∀ (m i : Nat) (acc : List Att) (s : ByteArray), i + m = n → acc.length = i → s.size < 15000 → (∀ x ∈ acc, x.f0.size < 20000) → Evn (fun k => schema_ReadAttrs.l0 k acc s (n : Int) (i : Int)) (readAs m acc s)
  | 0, i, acc, s, hi, ha, hs, hz => by
    refine Evn.step (fun k => schema_ReadAttrs.l0.eq_2 ..) (Evn.neg (by omega) (Evn.bind (attrs_q acc hz (by omega)) ?_))
    unfold readAs
    by_cases h : checkA acc = true
    · exact Evn.val (by rw [if_pos h]) (Evn.pos h (Evn.ret _))
    · exact Evn.val (by rw [if_neg h]) (Evn.neg h (Evn.ret _))
  | m + 1, i, acc, s, hi, ha, hs, hz => by
    have hw : wrap64 ((i : Int) + 1) = ((i + 1 : Nat) : Int) := by unfold wrap64; omega
    have hsz := takeR_size [4] [] s q4
    refine Evn.step (fun k => schema_ReadAttrs.l0.eq_2 ..) (Evn.pos (by omega) (Evn.bind (takeR_ev s (by omega) [4] q4 (by decide)) ?_))
    rw [hw, readAs]
    by_cases h0 : (takeR [4] [] s).2.2 = 0
    · obtain ⟨l, e1, e2, e3, e4⟩ := takeR_back [4] [] s (takeR [4] [] s).1 (takeR [4] [] s).2.1 q4 (by rw [← h0])
      rw [List.nil_append] at e1
      have hlen : (takeR [4] [] s).1.length = 1 := by rw [e1, ← List.length_map (f := fun x : Itm => x.f0), e2]; rfl
      obtain ⟨r1, r2⟩ := row1 l e2 e3
      have hfs : (rd_T101 l 0).f2.size ≤ s.size := by
        have h5 := congrArg List.length e4
        rw [List.length_append, r1] at h5
        have : rowL [⟨4, 0, (rd_T101 l 0).f2⟩] = (encN (rd_T101 l 0).f2.size ++ (rd_T101 l 0).f2.data.toList) ++ [] := rfl
        rw [this, List.length_append, List.length_append, ← size_len, ← size_len, ← size_len] at h5
        omega
      rw [if_pos h0]
      refine Evn.pos h0 (Evn.bind (vread_ev _ (by omega)) ?_)
      by_cases h1 : (readX (takeR [4] [] s).2.1).2.2.2.2 = 0
      · have hb := (size_of_app _ _ _ (readX_ok _ h1).2).1
        rw [if_pos h1]
        refine Evn.pos h1 (Evn.pos (by omega) (Evn.pos (by omega) ?_))
        refine readAs_ev n hn m (i + 1) _ _ (by omega) (by rw [snocLen, ha]) (by omega) (fun x hx => ?_)
        rcases List.mem_append.1 hx with hx | hx
        · exact hz x hx
        · have hq : x.f0 = (rd_T101 l 0).f2 := by rw [List.mem_singleton.1 hx, e1]
          rw [hq]; omega
      · rw [if_neg h1]
        exact Evn.neg h1 (Evn.ret _)
    · rw [if_neg h0]
      exact Evn.neg h0 (Evn.ret _)
theorem attrsRead_q (s : ByteArray) (hs : s.size < 15000) : Evn (fun k => schema_ReadAttrs.f k s) (readA s) := by
  have ho := get_ok s
  unfold readA
  refine Evn.bind (get_ev s (by omega)) ?_
  by_cases h0 : (getS s).2.2 = 0
  · rw [if_pos h0]
    refine Evn.pos h0 ?_
    by_cases h1 : (getS s).1 > 24
    · rw [if_pos h1]
      exact Evn.pos h1 (Evn.ret _)
    · rw [if_neg h1]
      have := readAs_ev (getS s).1.toNat (by omega) (getS s).1.toNat 0 [] (getS s).2.1 (by omega) rfl (by omega) (fun x hx => by cases hx)
      rw [Int.toNat_of_nonneg ho.1] at this
      exact Evn.neg h1 this
  · rw [if_neg h0]
    exact Evn.neg h0 (Evn.ret _)
theorem readX_fwd (a0 a1 : Int) (a2 : ByteArray) (h : okV a0 a1 a2) (r : List UInt8) : readX (bl (textL a0 a1 a2 ++ r)) = (a0, a1, a2, bl r, 0) := by
  obtain ⟨rest, h1, h2⟩ := read_fwd (bl (textL a0 a1 a2 ++ r)) a0 a1 a2 h r rfl
  rw [h2]
  exact Prod.ext rfl (Prod.ext rfl (Prod.ext rfl (Prod.ext (bl_ext h1) rfl)))
theorem readAs_fwd (r : List UInt8) : ∀ (l acc : List Att), checkA (acc ++ l) = true → (∀ x ∈ l, okV x.f1.f0 x.f1.f1 x.f1.f2 ∧ x.f0.size ≤ 65536) → readAs l.length acc (bl (encAs l ++ r)) = (acc ++ l, bl r, 0)
  | [], acc, h, ho => by
    rw [List.append_nil] at h ⊢
    show (if checkA acc = true then (acc, bl r, (0 : Int)) else _) = _
    rw [if_pos h]
  | x :: l, acc, h, ho => by
    obtain ⟨o1, o2⟩ := ho x List.mem_cons_self
    have ht := takeR_fwd [⟨4, 0, x.f0⟩] [] (textL x.f1.f0 x.f1.f1 x.f1.f2 ++ (encAs l ++ r)) (fun i hi => by rw [List.mem_singleton.1 hi]; exact .inr (.inr ⟨rfl, rfl, o2⟩))
    have ih := readAs_fwd r l (acc ++ [x]) (by rw [List.append_assoc]; exact h) (fun y hy => ho y (List.mem_cons_of_mem _ hy))
    have e : rowL [⟨4, 0, x.f0⟩] ++ (textL x.f1.f0 x.f1.f1 x.f1.f2 ++ (encAs l ++ r)) = encAs (x :: l) ++ r := by
      show ((encN x.f0.size ++ x.f0.data.toList) ++ []) ++ _ = (((encN x.f0.size ++ x.f0.data.toList) ++ textL x.f1.f0 x.f1.f1 x.f1.f2) ++ encAs l) ++ r
      rw [List.append_nil, List.append_assoc, List.append_assoc, List.append_assoc, List.append_assoc]
    have e2 : ([⟨4, 0, x.f0⟩] : List Itm).map (·.f0) = [4] := rfl
    rw [e, e2, List.nil_append] at ht
    rw [List.length_cons, readAs, ht]
    dsimp only
    rw [if_pos rfl, readX_fwd _ _ _ o1]
    dsimp only
    rw [if_pos rfl]
    have e3 : attOf [⟨4, 0, x.f0⟩] (x.f1.f0, x.f1.f1, x.f1.f2, bl (encAs l ++ r), 0) = x := rfl
    rw [e3, ih, List.append_assoc]; rfl
theorem readA_fwd (l : List Att) (h : checkA l = true) (hs : ∀ x ∈ l, x.f0.size < 20000) (r : List UInt8) : readA (bl (attrsT l ++ r)) = (l, bl r, 0) := by
  obtain ⟨ha, h24⟩ := checkA_all l h
  unfold readA attrsT
  rw [List.append_assoc, getS_fwd _ (by omega)]
  dsimp only
  rw [if_pos rfl, if_neg (by omega), Int.toNat_natCast, readAs_fwd r l [] h (fun x hx => ⟨(ha x hx).2, by have := hs x hx; omega⟩)]; rfl
end Go.Proofs.YtnbbajiabbmdmaaGreatDoor.U8
namespace Go.Proofs.YtnbbajiabbmdmaaGreatDoor.U8
open Go.RowKit Go.Proofs.YtnbbajiabbmdmaaGreatDoor.A Go.Proofs.YtnbbajiabbmdmaaGreatDoorW.PrintWords Go.Proofs.YtnbbajiabbmdmaaGreatDoorW.PrintLast Go.Lib
set_option linter.unusedVariables false
set_option maxRecDepth 100000 in
theorem awake4_true : caduceuslaw04_awake.f 80 = some true := by decide +kernel
theorem awake4 : Evn (fun k => caduceuslaw04_awake.f k) true := Evn.of 80 (fun k h => at_rounds (fun k => caduceuslaw04_awake.mono k) h awake4_true)
end Go.Proofs.YtnbbajiabbmdmaaGreatDoor.U8
namespace Go.Proofs.YtnbbajiabbmdmaaGreatDoor.Pure
open Go.RowKit Go.Proofs.YtnbbajiabbmdmaaGreatDoor.A Go.Proofs.YtnbbajiabbmdmaaGreatDoor.U8 Go.Proofs.YtnbbajiabbmdmaaGreatDoorW.PrintWords Go.Proofs.YtnbbajiabbmdmaaGreatDoorW.PrintLast
set_option linter.unusedVariables false
set_option linter.unusedSimpArgs false
theorem sameA_ev (l : List AttR) (hl : l.length < 1000000) : Evn (fun k => caduceusref04_SameAttrs.f k l l) true := by
  refine Evn.pos rfl ?_
  refine Evn.loop (g := fun k i => caduceusref04_SameAttrs.l0 k l l i) l (by omega) (fun _ => True) (fun _ _ => true) ?_ ?_ l [] rfl trivial
  · intro _ hn
    exact Evn.step (fun k => caduceusref04_SameAttrs.l0.eq_2 ..) (Evn.neg hn (Evn.ret _))
  · intro pre x post e _ hlt h0 hw hget hmem ih
    refine Evn.step (fun k => caduceusref04_SameAttrs.l0.eq_2 ..) (Evn.pos hlt (Evn.pos h0 (Evn.pos hlt ?_)))
    rw [hw, beq_self_eq_true, beq_self_eq_true, beq_self_eq_true, beq_self_eq_true]
    exact Evn.neg (by decide) (ih trivial)
theorem encFs_len (l : List Fld) (hs : ∀ x ∈ l, x.f0.size ≤ 200) (hk : ∀ x ∈ l, 1 ≤ x.f1 ∧ x.f1 ≤ 4) : (encFs l).length ≤ 300 * l.length := by
  induction l with
  | nil => exact Nat.le_refl _
  | cons x l ih =>
    have h1 := ih (fun y hy => hs y (List.mem_cons_of_mem _ hy)) (fun y hy => hk y (List.mem_cons_of_mem _ hy))
    have h2 := hs x List.mem_cons_self
    have h3 := szOf_pos x.f0.size
    have h4 := szOf_pos x.f1.toNat
    have e : rowL (itemsF x) = (encN x.f0.size ++ x.f0.data.toList) ++ (encN x.f1.toNat ++ ([UInt8.ofNat (flagI x.f2).toNat] ++ [])) := rfl
    rw [encFs_cons, e, List.length_append, List.length_append, List.length_append, List.length_append, encN_len, encN_len, ← size_len, List.length_cons]
    show (szOf x.f0.size + x.f0.size + (szOf x.f1.toNat + 1)) + (encFs l).length ≤ _
    omega
theorem encAs_len (l : List Att) (hs : ∀ x ∈ l, x.f0.size ≤ 200) (hk : ∀ x ∈ l, okV x.f1.f0 x.f1.f1 x.f1.f2) : (encAs l).length ≤ 600 * l.length := by
  induction l with
  | nil => exact Nat.le_refl _
  | cons x l ih =>
    have h1 := ih (fun y hy => hs y (List.mem_cons_of_mem _ hy)) (fun y hy => hk y (List.mem_cons_of_mem _ hy))
    have h2 := hs x List.mem_cons_self
    have h3 := szOf_pos x.f0.size
    have h4 := textL_len _ _ _ (hk x List.mem_cons_self)
    have e : encAs (x :: l) = encA x ++ encAs l := rfl
    rw [e, List.length_append, List.length_cons]
    unfold encA
    rw [List.length_append, List.length_append, encN_len, ← size_len]
    omega
theorem back_j1 (a : List Att) (r : ByteArray) (hr : r.size ≤ 500) (hl : a.length ≤ 41) (hs : ∀ x ∈ a, x.f0.size ≤ 200) : Evn (fun k => caduceuslaw04_SchemaBack.j1 k a r) true := by
  have hs2 : ∀ x ∈ a, x.f0.size < 20000 := fun x hx => by have := hs x hx; omega
  refine Evn.step (fun k => caduceuslaw04_SchemaBack.j1.eq_2 ..) (Evn.bind (attrs_q a hs2 (by omega)) ?_)
  by_cases h : checkA a = true
  · obtain ⟨ha, h24⟩ := checkA_all a h
    have hlen := encAs_len a hs (fun x hx => (ha x hx).2)
    have hn := szOf_pos a.length
    have ht : (attrsT a).length ≤ 15000 - 592 := by unfold attrsT; rw [List.length_append, encN_len]; omega
    refine Evn.pos h (Evn.bind (attrText_q a hs2 (by omega)) ?_)
    unfold attrB
    rw [if_pos h]
    have hz : (bl (attrsT a) ++ r).size < 15000 := by rw [ByteArray.size_append]; show (attrsT a).length + r.size < _; omega
    have hf := readA_fwd a h hs2 r.data.toList
    have e : bl (attrsT a ++ r.data.toList) = bl (attrsT a) ++ r := (bl_appl _ _).symm
    rw [e, bl_eta] at hf
    refine Evn.pos (by show (attrsT a).length + r.size ≤ _; omega) (Evn.bind (attrsRead_q _ hz) ?_)
    rw [hf]
    refine Evn.bind awake4 (Evn.pos rfl (Evn.pos rfl (Evn.pos rfl (Evn.bind (refsA_ev a (by omega)) (Evn.bind (refsA_ev a (by omega)) (Evn.bind (sameA_ev _ (by rw [List.length_map]; omega)) (Evn.ret _)))))))
  · refine Evn.neg h (Evn.bind awake4 (Evn.pos rfl (Evn.bind (attrText_q a hs2 (by omega)) (Evn.con ?_))))
    unfold attrB
    rw [if_neg h, bl_toList]; rfl
theorem parse_show (l : List Fld) (h : checkF l = true) (hz : (showB l).size < 15000) : Evn (fun k => schema_Parse.f k (showB l)) (l, 0) := by
  by_cases h0 : l = []
  · subst h0
    have e : (showB []).toList = [45] := bl_toList [45]
    have := parse_q (showB []) hz
    rw [if_pos e] at this
    exact this
  · have e : showB l = bl (schemaL l) := by
      unfold showB
      rw [if_pos h, if_neg (fun hh => h0 (List.eq_nil_of_length_eq_zero hh))]
    have h1 := parse_q (showB l) hz
    have hp := parseQ_show l h h0
    rw [← e] at hp
    have h2 : ∃ x xs, l = x :: xs := by
      cases l with
      | nil => exact absurd rfl h0
      | cons x xs => exact ⟨x, xs, rfl⟩
    have hlen : 2 ≤ (schemaL l).length := by
      obtain ⟨x, xs, rfl⟩ := h2
      have hx := (checkF_all _ h).1 x List.mem_cons_self
      unfold schemaL
      rw [List.map_cons, Lib.join_cons, List.length_append]
      have hw : 3 ≤ (wordL x.f1).length := by
        have : x.f1 = 1 ∨ x.f1 = 2 ∨ x.f1 = 3 ∨ x.f1 = 4 := by omega
        rcases this with h | h | h | h <;> rw [h] <;> decide
      have : 4 ≤ (lineL x).length := by
        unfold lineL
        rw [List.length_append, List.length_append, List.length_append]
        simp only [List.length_cons, List.length_nil]; omega
      omega
    have n45 : (showB l).toList ≠ [45] := by
      rw [e, bl_toList]
      intro hh; rw [hh] at hlen; exact absurd hlen (by decide)
    have nn : (showB l).toList ≠ [] := by
      rw [e, bl_toList]
      intro hh; rw [hh] at hlen; exact absurd hlen (by decide)
    rw [if_neg n45] at h1
    unfold resQ at h1
    rw [hp, if_pos rfl, if_neg nn] at h1
    exact h1
theorem show_size (l : List Fld) (hs : ∀ x ∈ l, x.f0.size ≤ 200) (hl : l.length ≤ 41) : (showB l).size < 15000 := by
  have key : ∀ ys : List Fld, (∀ y ∈ ys, y.f0.size ≤ 200) → (Lib.joinTail [44, 32] (ys.map lineL)).length ≤ 209 * ys.length := by
    intro ys
    induction ys with
    | nil => intro _; exact Nat.le_refl _
    | cons y ys ih =>
      intro hy
      have h5 := ih (fun z hz => hy z (List.mem_cons_of_mem _ hz))
      have h6 := line_len y
      have h7 := hy y List.mem_cons_self
      have e : Lib.joinTail [44, 32] ((y :: ys).map lineL) = ([44, 32] ++ lineL y) ++ Lib.joinTail [44, 32] (ys.map lineL) := rfl
      have e2 : ([44, 32] : List UInt8).length = 2 := rfl
      rw [e, List.length_append, List.length_append, List.length_cons (a := y), e2]
      omega
  have h2 : (schemaL l).length ≤ 209 * l.length := by
    unfold schemaL
    cases l with
    | nil => exact Nat.le_refl _
    | cons x xs =>
      have h1 := line_len x
      have h3 := hs x List.mem_cons_self
      have h4 := key xs (fun z hz => hs z (List.mem_cons_of_mem _ hz))
      rw [List.map_cons, Lib.join_cons, List.length_append, List.length_cons]; omega
  unfold showB
  split
  · split
    · show 1 < 15000; omega
    · show (schemaL l).length < _; omega
  · show 0 < 15000; omega
theorem back_j0 (l : List Fld) (a : List Att) (r : ByteArray) (hr : r.size ≤ 500) (hl : l.length ≤ 41) (hs : ∀ x ∈ l, x.f0.size ≤ 200) (hla : a.length ≤ 41) (hsa : ∀ x ∈ a, x.f0.size ≤ 200) : Evn (fun k => caduceuslaw04_SchemaBack.j0 k l a r false) true := by
  have hs2 : ∀ x ∈ l, x.f0.size < 20000 := fun x hx => by have := hs x hx; omega
  have hj := back_j1 a r hr hla hsa
  refine Evn.step (fun k => caduceuslaw04_SchemaBack.j0.eq_2 ..) (Evn.neg (by decide) (Evn.bind (check_q l hs2 (by omega)) ?_))
  by_cases h : checkF l = true
  · obtain ⟨ha, h24⟩ := checkF_all l h
    have hlen := encFs_len l hs (fun x hx => (ha x hx).2)
    have hn := szOf_pos l.length
    have ht : (schemaT l).length ≤ 14400 := by unfold schemaT; rw [List.length_append, encN_len]; omega
    refine Evn.pos h (Evn.bind (schemaShow_q l hs2 (by omega)) (Evn.bind (parse_show l h (show_size l hs hl)) (Evn.bind (schemaText_q l hs2 (by omega)) ?_)))
    unfold textB
    rw [if_pos h]
    have hz : (bl (schemaT l) ++ r).size < 15000 := by rw [ByteArray.size_append]; show (schemaT l).length + r.size < _; omega
    have hf := readF_fwd l h hs2 r.data.toList
    have e : bl (schemaT l ++ r.data.toList) = bl (schemaT l) ++ r := (bl_appl _ _).symm
    rw [e, bl_eta] at hf
    refine Evn.pos (by show (schemaT l).length + r.size ≤ _; omega) (Evn.bind (schemaRead_q _ hz) ?_)
    rw [hf]
    refine Evn.pos rfl (Evn.pos rfl (Evn.pos rfl ?_))
    refine Evn.bind (refsF_ev l (by omega)) (Evn.bind (refsF_ev l (by omega)) (Evn.bind (same_ev _ (by rw [List.length_map]; omega)) (Evn.pos rfl ?_)))
    exact Evn.bind (refsF_ev l (by omega)) (Evn.bind (refsF_ev l (by omega)) (Evn.bind (same_ev _ (by rw [List.length_map]; omega)) (Evn.pos rfl hj)))
  · exact Evn.neg h hj
theorem SchemaBack (l : List Fld) (a : List Att) (s : ByteArray) (hm : l.length ≤ maxLen) (hw : ∀ v ∈ l, (Lit.int .i64 v.f1).wf = true) (hma : a.length ≤ maxLen) (hwa : ∀ v ∈ a, (Lit.int .i64 v.f1.f0).wf = true ∧ (Lit.int .i64 v.f1.f1).wf = true) (hz : s.size ≤ 140737488351232) :
    ∃ k, caduceuslaw04_SchemaBack.f k l a s = some true := by
  have no : Evn (fun k => caduceuslaw04_SchemaBack.j0 k l a s true) true := Evn.step (fun k => caduceuslaw04_SchemaBack.j0.eq_2 ..) (Evn.pos rfl (Evn.bind awake4 (Evn.ret _)))
  refine Evn.get (g := fun k => caduceuslaw04_SchemaBack.f k l a s) (Evn.bind (fewF_ev l) (Evn.ite (fun h1 => Evn.bind (fewA_ev a) (Evn.ite (fun h2 => ?_) (fun _ => no))) (fun _ => no)))
  obtain ⟨f1, f2⟩ := fewF_true l h1
  obtain ⟨g1, g2⟩ := fewA_true a h2
  by_cases hc : s.size ≤ 500
  · rw [decide_eq_false (by omega)]
    exact back_j0 l a s hc f1 f2 g1 (fun x hx => (g2 x hx).1)
  · rw [decide_eq_true (by omega)]
    exact no
end Go.Proofs.YtnbbajiabbmdmaaGreatDoor.Pure
