import Derived.Lib.DecodeNEq
import Derived.Lib.ValidU
import Derived.Lib.MapLaws
import Derived.Lib.Bytes
import Derived.Test.YtkdndabpaajkaaaGreatDoorAx0
import Derived.Test.YtkdndabpaajkaaaGreatDoorAx6
import Derived.Test.YtkdndabpaajkaaaGreatDoorAx7
import Derived.Test.YtkdndabpaajkaaaGreatDoorAx8
import Derived.Test.YtkdndabpaajkaaaGreatDoorAx9
import Derived.Test.YtkdndabpaajkaaaGreatDoorAx10
import Derived.Test.YtkdndabpaajkaaaGreatDoorAx11
import Derived.Test.YtkdndabpaajkaaaGreatDoorAx12
import Derived.Test.YtkdndabpaajkaaaGreatDoorAx13
import Derived.Test.YtkdndabpaajkaaaGreatDoorAx14
import Derived.Test.YtkdndabpaajkaaaGreatDoorAx15
import Derived.Test.YtkdndabpaajkaaaGreatDoorAx16
import Derived.Test.YtkdndabpaajkaaaGreatDoorAx17
import Derived.Test.YtkdndabpaajkaaaGreatDoorAx18
import Derived.Test.YtkdndabpaajkaaaGreatDoorAx19
import Derived.Test.YtkdndabpaajkaaaGreatDoorAx20
import Derived.Test.YtkdndabpaajkaaaGreatDoorAx21
import Derived.Test.YtkdndabpaajkaaaGreatDoorAx22
import Derived.Test.YtkdndabpaajkaaaGreatDoorAx24
import Derived.Test.YtkdndabpaajkaaaGreatDoorAx25
import Derived.Test.YtkdndabpaajkaaaGreatDoorAx26
import Derived.Test.YtkdndabpaajkaaaGreatDoorAx27
import Derived.Test.YtkdndabpaajkaaaGreatDoorAx28
import Derived.Test.YtkdndabpaajkaaaGreatDoorAx29
import Derived.Test.YtkdndabpaajkaaaGreatDoorAx30
import Derived.Test.YtkdndabpaajkaaaGreatDoorAx31
namespace Go.Proofs.YtkdndabpaajkaaaGreatDoor.U8
def cmpI : List Int → List Int → Int
  | [], [] => 0
  | [], _ :: _ => -1
  | _ :: _, [] => 1
  | a :: x, b :: y => if a < b then -1 else if b < a then 1 else cmpI x y
open Go.RowKit Go.Proofs.YtkdndabpaajkaaaGreatDoor.A Go.Proofs.YtkdndabpaajkaaaGreatDoorW.PrintWords Go.Proofs.YtkdndabpaajkaaaGreatDoorW.PrintLast Go.Lib
set_option linter.unusedVariables false
def Evn {α : Type} (g : Nat → Option α) (v : α) : Prop := ∃ K, ∀ k, K ≤ k → g k = some v
theorem Evn.of {α : Type} {g : Nat → Option α} {v : α} (K : Nat) (h : ∀ k, K ≤ k → g k = some v) : Evn g v := ⟨K, h⟩
theorem Evn.of1 {α : Type} {g : Nat → Option α} {v : α} (h : ∀ k, g (k + 1) = some v) : Evn g v := ⟨1, fun k hk => by
  obtain ⟨j, rfl⟩ : ∃ j, k = j + 1 := ⟨k - 1, by omega⟩
  exact h j⟩
theorem Evn.ret {α : Type} (v : α) : Evn (fun _ => some v) v := ⟨0, fun _ _ => rfl⟩
theorem Evn.con {α : Type} {o : Option α} {v : α} (h : o = some v) : Evn (fun _ => o) v := ⟨0, fun _ _ => h⟩
theorem Evn.step {α : Type} {g g' : Nat → Option α} {v : α} (e : ∀ k, g (k + 1) = g' k) (h : Evn g' v) : Evn g v := by
  obtain ⟨K, h⟩ := h
  refine ⟨K + 1, fun k hk => ?_⟩
  obtain ⟨j, rfl⟩ : ∃ j, k = j + 1 := ⟨k - 1, by omega⟩
  exact (e j).trans (h j (by omega))
theorem Evn.val {α : Type} {g : Nat → Option α} {v v' : α} (e : v = v') (h : Evn g v) : Evn g v' := e ▸ h
theorem Evn.pos {α : Type} {c : Prop} [Decidable c] {a b : Nat → Option α} {v : α} (hc : c) (h : Evn a v) : Evn (fun k => if c then a k else b k) v := by
  obtain ⟨K, h⟩ := h
  exact ⟨K, fun k hk => (if_pos hc).trans (h k hk)⟩
theorem Evn.neg {α : Type} {c : Prop} [Decidable c] {a b : Nat → Option α} {v : α} (hc : ¬ c) (h : Evn b v) : Evn (fun k => if c then a k else b k) v := by
  obtain ⟨K, h⟩ := h
  exact ⟨K, fun k hk => (if_neg hc).trans (h k hk)⟩
theorem Evn.bind {α β : Type} {g : Nat → Option α} {u : α} {h : Nat → α → Option β} {v : β} (hg : Evn g u) (hh : Evn (fun k => h k u) v) : Evn (fun k => (g k).bind (h k)) v := by
  obtain ⟨K, hg⟩ := hg
  obtain ⟨L, hh⟩ := hh
  refine ⟨K + L, fun k hk => ?_⟩
  show (g k).bind (h k) = some v
  rw [hg k (by omega), Option.bind_some]
  exact hh k (by omega)
theorem Evn.bc {α β : Type} {o : Option α} {u : α} {h : Nat → α → Option β} {v : β} (hg : o = some u) (hh : Evn (fun k => h k u) v) : Evn (fun k => o.bind (h k)) v := Evn.bind (Evn.con hg) hh
theorem Evn.get {α : Type} {g : Nat → Option α} {v : α} (h : Evn g v) : ∃ k, g k = some v := let ⟨K, h⟩ := h; ⟨K, h K (Nat.le_refl _)⟩
theorem w1p {α : Type} (pre : List α) (x : α) (h : pre.length < 4000000000000000000) : wrap64 ((pre.length : Int) + 1) = ((pre ++ [x]).length : Int) := by
  have e : (pre ++ [x]).length = pre.length + 1 := by rw [List.length_append]; rfl
  rw [e]; unfold wrap64; omega
theorem w1m {α : Type} (pre : List α) (x : α) (h : pre.length < 4000000000000000000) : wrap64 (((pre ++ [x]).length : Int) - 1) = (pre.length : Int) := by
  have e : (pre ++ [x]).length = pre.length + 1 := by rw [List.length_append]; rfl
  rw [e]; unfold wrap64; omega
theorem snocLen {α : Type} (pre : List α) (x : α) : (pre ++ [x]).length = pre.length + 1 := by rw [List.length_append]; rfl
theorem ltp {α : Type} (pre : List α) (x : α) (post : List α) : (pre.length : Int) < ((pre ++ x :: post).length : Int) := by
  rw [List.length_append, List.length_cons]; omega
theorem getDp {α : Type} (pre : List α) (x : α) (post : List α) (z : α) : (pre ++ x :: post).getD ((pre.length : Int)).toNat z = x := by
  rw [Int.toNat_natCast, List.getD_eq_getElem?_getD, List.getElem?_append_right (Nat.le_refl _), Nat.sub_self]; rfl
theorem getDq {α : Type} (pre : List α) (y : α) (post : List α) (z : α) : ((pre ++ [y]) ++ post).getD ((pre.length : Int)).toNat z = y := by
  rw [List.append_assoc]; exact getDp pre y post z
theorem Evn.loopS {α β : Type} {g : Nat → Int → Option β} (l : List α) (I : List α → Prop) (S : List α → List α → β)
    (h0 : I l → ¬ (l.length : Int) < (l.length : Int) → Evn (fun k => g k (l.length : Int)) (S l []))
    (hs : ∀ pre x post, l = pre ++ x :: post → I pre → (pre.length : Int) < (l.length : Int) → 0 ≤ (pre.length : Int) → (pre.length < 4000000000000000000 → wrap64 ((pre.length : Int) + 1) = ((pre ++ [x]).length : Int)) → (∀ z, l.getD ((pre.length : Int)).toNat z = x) → x ∈ l →
      (I (pre ++ [x]) → Evn (fun k => g k ((pre ++ [x]).length : Int)) (S (pre ++ [x]) post)) → Evn (fun k => g k (pre.length : Int)) (S pre (x :: post))) :
    ∀ (post pre : List α), l = pre ++ post → I pre → Evn (fun k => g k (pre.length : Int)) (S pre post)
  | [], pre, e, hi => by
    rw [List.append_nil] at e
    subst e
    exact h0 hi (by omega)
  | x :: post, pre, e, hi => by
    have hlt : (pre.length : Int) < (l.length : Int) := by rw [e]; exact ltp pre x post
    exact hs pre x post e hi hlt (Int.natCast_nonneg _) (fun hb => w1p pre x hb) (fun z => by rw [e]; exact getDp pre x post z) (by rw [e]; simp)
      (fun hi' => Evn.loopS l I S h0 hs post (pre ++ [x]) (by rw [e, List.append_assoc]; rfl) hi')
theorem Evn.loop {α β : Type} {g : Nat → Int → Option β} (l : List α) (hl : l.length < 4000000000000000000) (I : List α → Prop) (S : List α → List α → β)
    (h0 : I l → ¬ (l.length : Int) < (l.length : Int) → Evn (fun k => g k (l.length : Int)) (S l []))
    (hs : ∀ pre x post, l = pre ++ x :: post → I pre → (pre.length : Int) < (l.length : Int) → 0 ≤ (pre.length : Int) → wrap64 ((pre.length : Int) + 1) = ((pre ++ [x]).length : Int) → (∀ z, l.getD ((pre.length : Int)).toNat z = x) → x ∈ l →
      (I (pre ++ [x]) → Evn (fun k => g k ((pre ++ [x]).length : Int)) (S (pre ++ [x]) post)) → Evn (fun k => g k (pre.length : Int)) (S pre (x :: post))) :
    ∀ (post pre : List α), l = pre ++ post → I pre → Evn (fun k => g k (pre.length : Int)) (S pre post) :=
  Evn.loopS l I S h0 (fun pre x post e hi h1 h2 h3 h4 h5 h6 => hs pre x post e hi h1 h2 (h3 (by omega)) h4 h5 h6)
end Go.Proofs.YtkdndabpaajkaaaGreatDoor.U8
namespace Go.Proofs.YtkdndabpaajkaaaGreatDoor.U8
open Go.RowKit Go.Proofs.YtkdndabpaajkaaaGreatDoorW.PrintWords Go.Proofs.YtkdndabpaajkaaaGreatDoorW.PrintLast Go.Lib
set_option linter.unusedVariables false
def tl (n i b : Nat) : Prop := i < n ∧ 128 ≤ b ∧ b < 192
instance (n i b : Nat) : Decidable (tl n i b) := by unfold tl; exact inferInstance
def decR (n b0 b1 b2 b3 : Nat) : Nat × Nat :=
  if n = 0 then (0, 0)
  else if b0 < 128 then (b0, 1)
  else if 194 ≤ b0 ∧ b0 < 224 ∧ tl n 1 b1 then (64 * (b0 - 192) + (b1 - 128), 2)
  else if 224 ≤ b0 ∧ b0 < 240 ∧ tl n 1 b1 ∧ tl n 2 b2 ∧ 2048 ≤ 4096 * (b0 - 224) + 64 * (b1 - 128) + (b2 - 128) ∧ (4096 * (b0 - 224) + 64 * (b1 - 128) + (b2 - 128) < 55296 ∨ 57343 < 4096 * (b0 - 224) + 64 * (b1 - 128) + (b2 - 128)) then (4096 * (b0 - 224) + 64 * (b1 - 128) + (b2 - 128), 3)
  else if 240 ≤ b0 ∧ b0 < 245 ∧ tl n 1 b1 ∧ tl n 2 b2 ∧ tl n 3 b3 ∧ 65536 ≤ 262144 * (b0 - 240) + 4096 * (b1 - 128) + 64 * (b2 - 128) + (b3 - 128) ∧ 262144 * (b0 - 240) + 4096 * (b1 - 128) + 64 * (b2 - 128) + (b3 - 128) ≤ 1114111 then (262144 * (b0 - 240) + 4096 * (b1 - 128) + 64 * (b2 - 128) + (b3 - 128), 4)
  else (0, 0)
set_option maxHeartbeats 4000000 in
set_option maxRecDepth 100000 in
theorem decR_decodeN (n b0 b1 b2 b3 : Nat) (hn : n ≠ 0) (h0 : b0 < 256) (h1 : b1 < 256) (h2 : b2 < 256) (h3 : b3 < 256) :
    decR n b0 b1 b2 b3 = if decodeN n b0 b1 b2 b3 = (65533, 1) then (0, 0) else decodeN n b0 b1 b2 b3 := by
  have fin : ∀ X Y : Nat × Nat, decR n b0 b1 b2 b3 = X → decodeN n b0 b1 b2 b3 = Y → (X = if Y = (65533, 1) then (0, 0) else Y) → decR n b0 b1 b2 b3 = if decodeN n b0 b1 b2 b3 = (65533, 1) then (0, 0) else decodeN n b0 b1 b2 b3 := by
    intro X Y e1 e2 e3; rw [e1, e2]; exact e3
  have bad : decR n b0 b1 b2 b3 = (0, 0) → decodeN n b0 b1 b2 b3 = (65533, 1) → decR n b0 b1 b2 b3 = if decodeN n b0 b1 b2 b3 = (65533, 1) then (0, 0) else decodeN n b0 b1 b2 b3 := fun e1 e2 => fin _ _ e1 e2 (by rw [if_pos rfl])
  have good : ∀ X : Nat × Nat, X.2 ≠ 1 ∨ X.1 ≠ 65533 → decR n b0 b1 b2 b3 = X → decodeN n b0 b1 b2 b3 = X → decR n b0 b1 b2 b3 = if decodeN n b0 b1 b2 b3 = (65533, 1) then (0, 0) else decodeN n b0 b1 b2 b3 := fun X h e1 e2 => fin _ _ e1 e2 (by
    rw [if_neg]; intro e; rw [e] at h; simp at h)
  by_cases c0 : b0 < 128
  · exact good (b0, 1) (.inr (by show b0 ≠ 65533; omega)) (by unfold decR; rw [if_neg hn, if_pos c0]) (by unfold decodeN; rw [if_pos c0])
  by_cases c1 : b0 < 192
  · exact bad (by unfold decR; rw [if_neg hn, if_neg c0, if_neg (by omega), if_neg (by omega), if_neg (by omega)]) (by unfold decodeN; rw [if_neg c0, if_neg (by omega), if_neg (by omega), if_neg (by omega)])
  by_cases c2 : b0 < 224
  · by_cases k : 194 ≤ b0 ∧ b0 < 224 ∧ tl n 1 b1
    · have k' := k
      unfold tl at k'
      refine good (64 * (b0 - 192) + (b1 - 128), 2) (.inl (by simp)) (by unfold decR; rw [if_neg hn, if_neg c0, if_pos k]) ?_
      unfold decodeN
      rw [if_neg c0, if_pos (by omega), if_pos (by omega)]
      exact Prod.ext (by show _ = _; omega) rfl
    · have k' := k
      unfold tl at k'
      refine bad (by unfold decR; rw [if_neg hn, if_neg c0, if_neg k, if_neg (by omega), if_neg (by omega)]) ?_
      unfold decodeN
      rw [if_neg c0]
      by_cases k2 : b0 / 32 = 6 ∧ 1 < n ∧ b1 / 64 = 2
      · rw [if_pos k2, if_neg (by omega)]
      · rw [if_neg k2, if_neg (by omega), if_neg (by omega)]
  by_cases c3 : b0 < 240
  · by_cases k : 224 ≤ b0 ∧ b0 < 240 ∧ tl n 1 b1 ∧ tl n 2 b2 ∧ 2048 ≤ 4096 * (b0 - 224) + 64 * (b1 - 128) + (b2 - 128) ∧ (4096 * (b0 - 224) + 64 * (b1 - 128) + (b2 - 128) < 55296 ∨ 57343 < 4096 * (b0 - 224) + 64 * (b1 - 128) + (b2 - 128))
    · have k' := k
      unfold tl at k'
      refine good (4096 * (b0 - 224) + 64 * (b1 - 128) + (b2 - 128), 3) (.inl (by simp)) (by unfold decR; rw [if_neg hn, if_neg c0, if_neg (by omega), if_pos k]) ?_
      unfold decodeN
      rw [if_neg c0, if_neg (by omega), if_pos (by omega), if_pos (by omega)]
      exact Prod.ext (by show _ = _; omega) rfl
    · have k' := k
      unfold tl at k'
      refine bad (by unfold decR; rw [if_neg hn, if_neg c0, if_neg (by omega), if_neg k, if_neg (by omega)]) ?_
      unfold decodeN
      rw [if_neg c0, if_neg (by omega)]
      by_cases k2 : b0 / 16 = 14 ∧ (1 < n ∧ b1 / 64 = 2) ∧ (2 < n ∧ b2 / 64 = 2)
      · rw [if_pos k2, if_neg (by omega)]
      · rw [if_neg k2, if_neg (by omega)]
  · by_cases k : 240 ≤ b0 ∧ b0 < 245 ∧ tl n 1 b1 ∧ tl n 2 b2 ∧ tl n 3 b3 ∧ 65536 ≤ 262144 * (b0 - 240) + 4096 * (b1 - 128) + 64 * (b2 - 128) + (b3 - 128) ∧ 262144 * (b0 - 240) + 4096 * (b1 - 128) + 64 * (b2 - 128) + (b3 - 128) ≤ 1114111
    · have k' := k
      unfold tl at k'
      refine good (262144 * (b0 - 240) + 4096 * (b1 - 128) + 64 * (b2 - 128) + (b3 - 128), 4) (.inl (by simp)) (by unfold decR; rw [if_neg hn, if_neg c0, if_neg (by omega), if_neg (by omega), if_pos k]) ?_
      unfold decodeN
      rw [if_neg c0, if_neg (by omega), if_neg (by omega), if_pos (by omega), if_pos (by omega)]
      exact Prod.ext (by show _ = _; omega) rfl
    · have k' := k
      unfold tl at k'
      refine bad (by unfold decR; rw [if_neg hn, if_neg c0, if_neg (by omega), if_neg (by omega), if_neg k]) ?_
      unfold decodeN
      rw [if_neg c0, if_neg (by omega), if_neg (by omega)]
      by_cases k2 : b0 / 8 = 30 ∧ (1 < n ∧ b1 / 64 = 2) ∧ (2 < n ∧ b2 / 64 = 2) ∧ (3 < n ∧ b3 / 64 = 2)
      · rw [if_pos k2, if_neg (by omega)]
      · rw [if_neg k2]
def byt (l : List UInt8) (i : Nat) : Nat := (l.getD i 0).toNat
theorem byt_lt (l : List UInt8) (i : Nat) : byt l i < 256 := UInt8.toNat_lt _
def dec (l : List UInt8) : Nat × Nat := decR l.length (byt l 0) (byt l 1) (byt l 2) (byt l 3)
theorem get_byt (l : List UInt8) (i : Nat) : ((⟨l.toArray⟩ : ByteArray).get! i).toNat = byt l i := by
  unfold byt
  show (l.toArray[i]!).toNat = _
  by_cases h : i < l.length
  · simp [h, List.getD_eq_getElem?_getD]
  · simp [h, List.getD_eq_getElem?_getD]
    rfl
theorem decodeL_byt (l : List UInt8) : decodeL l = decodeN l.length (byt l 0) (byt l 1) (byt l 2) (byt l 3) := by
  unfold decodeL
  rw [decode_at]
  simp only [Nat.zero_add, get_byt]
  rfl
theorem dec_decodeL (l : List UInt8) (h : l ≠ []) : dec l = if decodeL l = (65533, 1) then (0, 0) else decodeL l := by
  rw [decodeL_byt]
  exact decR_decodeN _ _ _ _ _ (by simpa using h) (byt_lt _ _) (byt_lt _ _) (byt_lt _ _) (byt_lt _ _)
theorem bt_byt (s : ByteArray) (i : Int) : bt s i = (byt s.data.toList i.toNat : Int) := by
  unfold bt byt
  split
  · rename_i h
    have : i.toNat < s.data.toList.length := by rw [Array.length_toList]; exact h
    simp only [List.getD_eq_getElem?_getD, List.getElem?_eq_getElem this, Option.getD_some, Array.getElem_toList]
    rfl
  · rename_i h
    have : s.data.toList.length ≤ i.toNat := by rw [Array.length_toList]; exact Nat.not_lt.1 h
    simp [List.getD_eq_getElem?_getD, List.getElem?_eq_none this]
theorem dec_width (l : List UInt8) : (dec l).2 ≤ 4 ∧ (dec l).2 ≤ l.length ∧ ((dec l).2 = 0 → (dec l).1 = 0) ∧ (dec l).1 ≤ 1114111 := by
  have h0 := byt_lt l 0
  have h1 := byt_lt l 1
  have h2 := byt_lt l 2
  have h3 := byt_lt l 3
  unfold dec decR tl
  repeat' split
  all_goals (refine ⟨?_, ?_, ?_, ?_⟩ <;> first | (simp only; omega) | (intro _; rfl) | (intro h; simp at h))
def validF : Nat → List UInt8 → Bool
  | 0, l => l.isEmpty
  | f + 1, l => if l.isEmpty then true else if (dec l).2 = 0 then false else validF f (l.drop (dec l).2)
theorem validGoD_validF : ∀ (f : Nat) (l : List UInt8), l.length ≤ f → validGoD f l = validF f l
  | 0, l, h => by
    have : l = [] := List.eq_nil_of_length_eq_zero (by omega)
    subst this; rfl
  | f + 1, l, h => by
    by_cases hl : l = []
    · unfold validGoD validF; rw [if_pos hl, if_pos (by simp [hl])]
    · have e := dec_decodeL l hl
      have hw := dec_width l
      have hG : validGoD (f + 1) l = if (decodeL l).1 = 65533 ∧ (decodeL l).2 = 1 then false else validGoD f (l.drop (decodeL l).2) := by
        conv => lhs; unfold validGoD
        rw [if_neg hl]
      have hF : validF (f + 1) l = if (dec l).2 = 0 then false else validF f (l.drop (dec l).2) := by
        conv => lhs; unfold validF
        rw [if_neg (by simpa using hl)]
      rw [hG, hF]
      by_cases hb : decodeL l = (65533, 1)
      · rw [if_pos (by rw [hb]; exact ⟨rfl, rfl⟩), if_pos (by rw [e, if_pos hb])]
      · rw [if_neg hb] at e
        have hpos := decodeL_width l
        rw [if_neg (fun h => hb (Prod.ext h.1 h.2)), if_neg (by rw [e]; omega), e]
        refine validGoD_validF f _ ?_
        rw [List.length_drop]; omega
theorem validD_validF (l : List UInt8) : validD l = validF l.length l := validGoD_validF _ _ (Nat.le_refl _)
end Go.Proofs.YtkdndabpaajkaaaGreatDoor.U8
namespace Go.Proofs.YtkdndabpaajkaaaGreatDoor.U8
open Go.RowKit Go.Proofs.YtkdndabpaajkaaaGreatDoor.A Go.Proofs.YtkdndabpaajkaaaGreatDoorW.PrintWords Go.Proofs.YtkdndabpaajkaaaGreatDoorW.PrintLast Go.Lib
set_option linter.unusedVariables false
set_option linter.unusedSimpArgs false
theorem w64 {x : Int} (h0 : -9223372036854775808 ≤ x) (h1 : x ≤ 9223372036854775807) : wrap64 x = x := by unfold wrap64; omega
theorem toList_nil (s : ByteArray) : (s.toList = ([] : List UInt8)) ↔ s.size = 0 := by
  rw [ByteArray.toList_eq]
  constructor
  · intro h
    have := data_length s
    rw [h] at this
    exact this.symm
  · intro h
    exact List.eq_nil_of_length_eq_zero (by rw [data_length]; exact h)
theorem extract_toList (s : ByteArray) (i : Nat) : (s.extract i s.size).data.toList = s.data.toList.drop i := by
  have e : s.size = s.data.toList.length := (Array.length_toList).symm
  rw [ByteArray.data_extract, Array.toList_extract, e]
  simp [List.extract]
  exact List.take_of_length_le (by rw [List.length_drop]; omega)
theorem byt_drop (l : List UInt8) (i j : Nat) : byt (l.drop i) j = byt l (i + j) := by
  unfold byt
  rw [List.getD_eq_getElem?_getD, List.getD_eq_getElem?_getD, List.getElem?_drop]
theorem size_len (b : ByteArray) : b.size = b.data.toList.length := (Array.length_toList).symm
end Go.Proofs.YtkdndabpaajkaaaGreatDoor.U8
namespace Go.Proofs.YtkdndabpaajkaaaGreatDoor.U8
open Go.RowKit Go.Proofs.YtkdndabpaajkaaaGreatDoor.A Go.Proofs.YtkdndabpaajkaaaGreatDoorW.PrintWords Go.Proofs.YtkdndabpaajkaaaGreatDoorW.PrintLast Go.Lib
set_option linter.unusedVariables false
set_option linter.unusedSimpArgs false
theorem get_byt2 (s : ByteArray) (i : Nat) : (s.get! i).toNat = byt s.data.toList i := by
  have := get_byt s.data.toList i
  have e : (⟨s.data.toList.toArray⟩ : ByteArray) = s := by cases s; simp
  rwa [e] at this
theorem decode_drop (s : ByteArray) (i : Nat) : Utf8.decode s i = decodeL (s.data.toList.drop i) := by
  rw [decode_at, decodeL_byt, get_byt2, get_byt2, get_byt2, get_byt2, byt_drop, byt_drop, byt_drop, byt_drop, List.length_drop, ← size_len]
  rfl
theorem decode_dec (s : ByteArray) (i : Nat) (hi : i < s.size) (h : (dec (s.data.toList.drop i)).2 ≠ 0) : Utf8.decode s i = dec (s.data.toList.drop i) := by
  have hne : s.data.toList.drop i ≠ [] := by
    intro e
    have := congrArg List.length e
    rw [List.length_drop, ← size_len] at this
    simp at this
    omega
  rw [decode_drop]
  have e := dec_decodeL _ hne
  by_cases hb : decodeL (s.data.toList.drop i) = (65533, 1)
  · rw [if_pos hb] at e; rw [e] at h; exact absurd rfl h
  · rw [if_neg hb] at e; exact e.symm
def runesF : Nat → List UInt8 → List Nat
  | 0, _ => []
  | f + 1, l => if l.isEmpty then [] else if (dec l).2 = 0 then [] else (dec l).1 :: runesF f (l.drop (dec l).2)
def runesOf (l : List UInt8) : List Nat := runesF l.length l
def ints (l : List Nat) : List Int := l.map (fun x : Nat => (x : Int))
end Go.Proofs.YtkdndabpaajkaaaGreatDoor.U8
namespace Go.Proofs.YtkdndabpaajkaaaGreatDoor.U8
open Go.RowKit Go.Proofs.YtkdndabpaajkaaaGreatDoor.A Go.Proofs.YtkdndabpaajkaaaGreatDoorW.PrintWords Go.Proofs.YtkdndabpaajkaaaGreatDoorW.PrintLast Go.Lib
set_option linter.unusedVariables false
set_option linter.unusedSimpArgs false
theorem dec_enc (l : List UInt8) (h : (dec l).2 ≠ 0) : decodeL l = dec l ∧ ((dec l).1 < 55296 ∨ (57343 < (dec l).1 ∧ (dec l).1 ≤ 1114111)) ∧ encodeRune ((dec l).1 : Int) = l.take (dec l).2 ∧ l ≠ [] := by
  have hne : l ≠ [] := by
    rintro rfl
    exact h rfl
  have e := dec_decodeL l hne
  have e2 : ¬ decodeL l = (65533, 1) := fun hh => by rw [if_pos hh] at e; rw [e] at h; exact h rfl
  rw [if_neg e2] at e
  refine ⟨e.symm, ?_, ?_, hne⟩
  · have h0 := byt_lt l 0
    have h1 := byt_lt l 1
    have h2 := byt_lt l 2
    have h3 := byt_lt l 3
    revert h
    unfold dec decR tl
    repeat' split
    all_goals first | (intro h; exact absurd rfl h) | (intro h; simp only; omega)
  · rw [e]
    exact encode_decode l hne (fun hh => e2 (Prod.ext hh.1 hh.2))
def okC (c : Nat) : Prop := c < 55296 ∨ (57343 < c ∧ c ≤ 1114111)
theorem u8n (n : Nat) (h : n < 256) : (n.toUInt8).toNat = n := by
  show (UInt8.ofNat n).toNat = n
  rw [UInt8.toNat_ofNat']; omega
theorem byt0 (b : UInt8) (l : List UInt8) : byt (b :: l) 0 = b.toNat := rfl
theorem byt1 (a b : UInt8) (l : List UInt8) : byt (a :: b :: l) 1 = b.toNat := rfl
theorem byt2 (a b c : UInt8) (l : List UInt8) : byt (a :: b :: c :: l) 2 = c.toNat := rfl
theorem byt3 (a b c d : UInt8) (l : List UInt8) : byt (a :: b :: c :: d :: l) 3 = d.toNat := rfl
theorem dec_encode (c : Nat) (h : okC c) (l : List UInt8) : dec (encodeRune (c : Int) ++ l) = (c, (encodeRune (c : Int)).length) := by
  unfold okC at h
  unfold encodeRune
  by_cases c1 : c < 128
  · rw [encodeRuneZ_one (by omega) (by omega)]
    simp only [List.map_cons, List.map_nil, List.cons_append, List.nil_append, Int.toNat_natCast]
    unfold dec decR
    rw [byt0, u8n c (by omega), if_neg (by simp), if_pos c1]
    rfl
  by_cases c2 : c < 2048
  · rw [encodeRuneZ_two (by omega) (by omega)]
    simp only [List.map_cons, List.map_nil, List.cons_append, List.nil_append]
    rw [show (192 + (c : Int) / 64).toNat = 192 + c / 64 by omega, show (128 + (c : Int) % 64).toNat = 128 + c % 64 by omega]
    unfold dec decR tl
    rw [byt0, byt1, u8n _ (by omega), u8n _ (by omega), if_neg (by simp), if_neg (by omega), if_pos ⟨by omega, by omega, by simp, by omega, by omega⟩]
    exact Prod.ext (by show 64 * (192 + c / 64 - 192) + (128 + c % 64 - 128) = c; omega) rfl
  by_cases c3 : c < 65536
  · rw [encodeRuneZ_three (by omega)]
    simp only [List.map_cons, List.map_nil, List.cons_append, List.nil_append]
    rw [show (224 + (c : Int) / 4096).toNat = 224 + c / 4096 by omega, show (128 + (c : Int) / 64 % 64).toNat = 128 + c / 64 % 64 by omega, show (128 + (c : Int) % 64).toNat = 128 + c % 64 by omega]
    have e : 4096 * (224 + c / 4096 - 224) + 64 * (128 + c / 64 % 64 - 128) + (128 + c % 64 - 128) = c := by omega
    unfold dec decR tl
    rw [byt0, byt1, byt2, u8n _ (by omega), u8n _ (by omega), u8n _ (by omega), if_neg (by simp), if_neg (by omega), if_neg (by omega), if_pos ⟨by omega, by omega, ⟨by simp, by omega, by omega⟩, ⟨by simp, by omega, by omega⟩, by omega, by omega⟩]
    exact Prod.ext e rfl
  · rw [encodeRuneZ_four (by omega) (by omega)]
    simp only [List.map_cons, List.map_nil, List.cons_append, List.nil_append]
    rw [show (240 + (c : Int) / 262144).toNat = 240 + c / 262144 by omega, show (128 + (c : Int) / 4096 % 64).toNat = 128 + c / 4096 % 64 by omega, show (128 + (c : Int) / 64 % 64).toNat = 128 + c / 64 % 64 by omega, show (128 + (c : Int) % 64).toNat = 128 + c % 64 by omega]
    have e : 262144 * (240 + c / 262144 - 240) + 4096 * (128 + c / 4096 % 64 - 128) + 64 * (128 + c / 64 % 64 - 128) + (128 + c % 64 - 128) = c := by omega
    unfold dec decR tl
    rw [byt0, byt1, byt2, byt3, u8n _ (by omega), u8n _ (by omega), u8n _ (by omega), u8n _ (by omega), if_neg (by simp), if_neg (by omega), if_neg (by omega), if_neg (by omega), if_pos ⟨by omega, by omega, ⟨by simp, by omega, by omega⟩, ⟨by simp, by omega, by omega⟩, ⟨by simp, by omega, by omega⟩, by omega, by omega⟩]
    exact Prod.ext e rfl
def encL : List Nat → List UInt8
  | [] => []
  | c :: cs => encodeRune (c : Int) ++ encL cs
theorem enc_pos (c : Nat) : 1 ≤ (encodeRune (c : Int)).length := by
  unfold encodeRune
  rw [List.length_map]
  exact (encodeRuneZ_length (c : Int)).1
theorem runes_enc : ∀ (cs : List Nat) (m : Nat), (∀ c ∈ cs, okC c) → (encL cs).length ≤ m → runesF m (encL cs) = cs ∧ validF m (encL cs) = true
  | [], m, h, hm => by cases m <;> exact ⟨rfl, rfl⟩
  | c :: cs, m, h, hm => by
    have hp := enc_pos c
    rw [encL, List.length_append] at hm
    obtain ⟨m, rfl⟩ : ∃ q, m = q + 1 := ⟨m - 1, by omega⟩
    have hd := dec_encode c (h c (List.mem_cons_self ..)) (encL cs)
    have hne : ¬ ((encL (c :: cs)).isEmpty = true) := by
      intro e
      rw [List.isEmpty_iff] at e
      have := congrArg List.length e
      rw [encL, List.length_append, List.length_nil] at this
      omega
    obtain ⟨i1, i2⟩ := runes_enc cs m (fun x hx => h x (List.mem_cons_of_mem _ hx)) (by omega)
    rw [runesF, validF, if_neg hne, if_neg hne, encL, hd]
    dsimp only
    rw [if_neg (by omega), if_neg (by omega), List.drop_left, i1, i2]
    exact ⟨rfl, rfl⟩
theorem enc_runes : ∀ (m : Nat) (l : List UInt8), l.length ≤ m → validF m l = true → encL (runesF m l) = l ∧ ∀ c ∈ runesF m l, okC c
  | 0, l, hl, hv => by
    have : l = [] := List.eq_nil_of_length_eq_zero (by omega)
    subst this
    exact ⟨rfl, fun c hc => by simp [runesF] at hc⟩
  | m + 1, l, hl, hv => by
    by_cases he : l.isEmpty = true
    · rw [runesF, if_pos he]
      rw [List.isEmpty_iff] at he
      subst he
      exact ⟨rfl, fun c hc => by simp at hc⟩
    · rw [validF, if_neg he] at hv
      by_cases hz : (dec l).2 = 0
      · rw [if_pos hz] at hv; cases hv
      · rw [if_neg hz] at hv
        obtain ⟨_, ho, hen, _⟩ := dec_enc l hz
        obtain ⟨i1, i2⟩ := enc_runes m (l.drop (dec l).2) (by rw [List.length_drop]; omega) hv
        rw [runesF, if_neg he, if_neg hz, encL, i1, hen, List.take_append_drop]
        refine ⟨rfl, fun c hc => ?_⟩
        rcases List.mem_cons.1 hc with rfl | hc
        · exact ho
        · exact i2 c hc
theorem enc_byt0 (c : Nat) (h : okC c) (l : List UInt8) (k : Nat) (hk : k < 128) (e : byt (encodeRune (c : Int) ++ l) 0 = k) : c = k := by
  have hd := dec_encode c h l
  unfold dec decR at hd
  have hne : ¬ (encodeRune (c : Int) ++ l).length = 0 := by have := enc_pos c; rw [List.length_append]; omega
  rw [if_neg hne, e, if_pos hk] at hd
  exact (congrArg Prod.fst hd).symm
theorem valid_runes (a : ByteArray) (hv : validD a.data.toList = true) : encL (runesOf a.data.toList) = a.data.toList ∧ ∀ c ∈ runesOf a.data.toList, okC c := by
  rw [validD_validF] at hv
  exact enc_runes _ _ (Nat.le_refl _) hv
theorem valid_runesL (x : List UInt8) (h : validD x = true) : encL (runesOf x) = x ∧ ∀ c ∈ runesOf x, okC c := valid_runes ⟨x.toArray⟩ h
theorem count_runes (s : ByteArray) : ∀ (cs : List Nat) (f pos : Nat), (∀ c ∈ cs, okC c) → pos ≤ s.size → s.data.toList.drop pos = encL cs → s.size - pos ≤ f → Lib.runeCountFrom s f pos = cs.length
  | [], f, pos, ho, hp, hd, hf => by
    have hl := congrArg List.length hd
    rw [List.length_drop, ← size_len] at hl
    have e : (encL []).length = 0 := rfl
    exact Lib.runeCountFrom_end s f pos (by omega)
  | c :: cs, f, pos, ho, hp, hd, hf => by
    have hl := congrArg List.length hd
    have hp1 := enc_pos c
    rw [List.length_drop, ← size_len, encL, List.length_append] at hl
    have hlt : pos < s.size := by omega
    obtain ⟨f, rfl⟩ : ∃ q, f = q + 1 := ⟨f - 1, by omega⟩
    have hdec : dec (s.data.toList.drop pos) = (c, (encodeRune (c : Int)).length) := by rw [hd, encL]; exact dec_encode c (ho c (List.mem_cons_self ..)) _
    have e : Utf8.decode s pos = (c, (encodeRune (c : Int)).length) := by
      rw [decode_dec s pos hlt (by rw [hdec]; show (encodeRune (c : Int)).length ≠ 0; omega), hdec]
    rw [Lib.runeCountFrom, if_pos hlt, e, List.length_cons]
    rw [count_runes s cs f (pos + (encodeRune (c : Int)).length) (fun x hx => ho x (List.mem_cons_of_mem _ hx)) (by omega) (by rw [← List.drop_drop, hd, encL, List.drop_left]) (by omega)]
    omega
theorem count_ev (s : ByteArray) (hv : validD s.data.toList = true) : Lib.runeCount s = (runesOf s.data.toList).length := by
  obtain ⟨e1, o1⟩ := valid_runesL _ hv
  exact count_runes s _ s.size 0 o1 (Nat.zero_le _) e1.symm (by omega)
end Go.Proofs.YtkdndabpaajkaaaGreatDoor.U8
namespace Go.Proofs.YtkdndabpaajkaaaGreatDoor.U8
open Go.RowKit Go.Proofs.YtkdndabpaajkaaaGreatDoor.A Go.Proofs.YtkdndabpaajkaaaGreatDoorW.PrintWords Go.Proofs.YtkdndabpaajkaaaGreatDoorW.PrintLast Go.Lib
set_option linter.unusedVariables false
set_option linter.unusedSimpArgs false
def smallI (c : Int) : Int := if (65 ≤ c ∧ c ≤ 90) ∨ (192 ≤ c ∧ c ≤ 222 ∧ ¬ c = 215) ∨ (913 ≤ c ∧ c ≤ 937 ∧ ¬ c = 930) ∨ (1040 ≤ c ∧ c ≤ 1071) then c + 32 else c
theorem small_q (c : Int) (h0 : 0 ≤ c) (hc : c ≤ 1114111) : name_Small.f c = some (smallI c) := by
  by_cases e1 : c = 215
  · subst e1; decide +kernel
  by_cases e3 : c = 930
  · subst e3; decide +kernel
  have n1 : (c = 215) = False := eq_false e1
  have n3 : (c = 930) = False := eq_false e3
  have hw : wrap32 (c + 32) = c + 32 := by unfold wrap32; omega
  have cs : c < 65 ∨ (65 ≤ c ∧ c ≤ 90) ∨ (91 ≤ c ∧ c < 192) ∨ (192 ≤ c ∧ c ≤ 222) ∨ (223 ≤ c ∧ c < 913) ∨ (913 ≤ c ∧ c ≤ 937) ∨ (938 ≤ c ∧ c < 1040) ∨ (1040 ≤ c ∧ c ≤ 1071) ∨ 1072 ≤ c := by omega
  rcases cs with h | h | h | h | h | h | h | h | h
  all_goals (
    (first | have l65 : (65 ≤ c) = True := eq_true (by omega) | have l65 : (65 ≤ c) = False := eq_false (by omega)); (first | have u90 : (c ≤ 90) = True := eq_true (by omega) | have u90 : (c ≤ 90) = False := eq_false (by omega))
    (first | have l192 : (192 ≤ c) = True := eq_true (by omega) | have l192 : (192 ≤ c) = False := eq_false (by omega)); (first | have u222 : (c ≤ 222) = True := eq_true (by omega) | have u222 : (c ≤ 222) = False := eq_false (by omega))
    (first | have l913 : (913 ≤ c) = True := eq_true (by omega) | have l913 : (913 ≤ c) = False := eq_false (by omega)); (first | have u937 : (c ≤ 937) = True := eq_true (by omega) | have u937 : (c ≤ 937) = False := eq_false (by omega))
    (first | have l1040 : (1040 ≤ c) = True := eq_true (by omega) | have l1040 : (1040 ≤ c) = False := eq_false (by omega)); (first | have u1071 : (c ≤ 1071) = True := eq_true (by omega) | have u1071 : (c ≤ 1071) = False := eq_false (by omega))
    simp only [name_Small.f, name_between.f, smallI, ge_iff_le, n1, n3, hw, l65, u90, l192, u222, l913, u937, l1040, u1071, Option.bind_some, decide_true, decide_false, Bool.false_eq_true, Bool.true_eq_false, if_true, if_false, reduceIte, and_true, true_and, and_false, false_and, or_true, true_or, or_false, false_or, and_self, or_self, not_true, not_false_eq_true, ne_eq])
theorem small_ok (c : Nat) (h : okC c) : okC (smallI (c : Int)).toNat ∧ smallI (c : Int) = (((smallI (c : Int)).toNat : Nat) : Int) := by
  unfold okC at *
  unfold smallI
  split <;> omega
end Go.Proofs.YtkdndabpaajkaaaGreatDoor.U8
namespace Go.Proofs.YtkdndabpaajkaaaGreatDoor.U8
open Go.RowKit Go.Proofs.YtkdndabpaajkaaaGreatDoor.A Go.Proofs.YtkdndabpaajkaaaGreatDoorW.PrintWords Go.Proofs.YtkdndabpaajkaaaGreatDoorW.PrintLast Go.Lib
set_option linter.unusedVariables false
end Go.Proofs.YtkdndabpaajkaaaGreatDoor.U8
namespace Go.Proofs.YtkdndabpaajkaaaGreatDoor.U8
open Go.RowKit Go.Proofs.YtkdndabpaajkaaaGreatDoor.A Go.Proofs.YtkdndabpaajkaaaGreatDoorW.PrintWords Go.Proofs.YtkdndabpaajkaaaGreatDoorW.PrintLast Go.Lib
set_option linter.unusedVariables false
set_option linter.unusedSimpArgs false
def smallN (c : Nat) : Nat := (smallI (c : Int)).toNat
theorem fold_go (s : ByteArray) : ∀ (cs : List Nat) (f pos : Nat) (acc : List Int), (∀ c ∈ cs, okC c) → pos ≤ s.size → s.data.toList.drop pos = encL cs → s.size - pos < f → name_Fold.go s f pos acc = some (acc ++ ints (cs.map smallN))
  | cs, 0, pos, acc, ho, hp, hd, hf => by omega
  | [], f + 1, pos, acc, ho, hp, hd, hf => by
    have hl := congrArg List.length hd
    rw [List.length_drop, ← size_len] at hl
    have e : (encL []).length = 0 := rfl
    rw [name_Fold.go, if_neg (by omega)]
    show some acc = some (acc ++ [])
    rw [List.append_nil]
  | c :: cs, f + 1, pos, acc, ho, hp, hd, hf => by
    have hl := congrArg List.length hd
    have hp1 := enc_pos c
    rw [List.length_drop, ← size_len, encL, List.length_append] at hl
    have hlt : pos < s.size := by omega
    have hdec : dec (s.data.toList.drop pos) = (c, (encodeRune (c : Int)).length) := by rw [hd, encL]; exact dec_encode c (ho c (List.mem_cons_self ..)) _
    have e : Utf8.decode s pos = (c, (encodeRune (c : Int)).length) := by
      rw [decode_dec s pos hlt (by rw [hdec]; show (encodeRune (c : Int)).length ≠ 0; omega), hdec]
    have hc := ho c (List.mem_cons_self ..)
    have ih := fun b => fold_go s cs f (pos + (encodeRune (c : Int)).length) b (fun x hx => ho x (List.mem_cons_of_mem _ hx)) (by omega) (by rw [← List.drop_drop, hd, encL, List.drop_left]) (by omega)
    rw [name_Fold.go, if_pos hlt, e]
    dsimp only
    rw [small_q (c : Int) (by omega) (by unfold okC at hc; omega), Option.bind_some, ih, (small_ok c hc).2, List.append_assoc]
    rfl
theorem w1n2 (i : Nat) (h : i < 200000) : wrap64 ((i : Int) + 1) = ((i + 1 : Nat) : Int) := by rw [w64 (by omega) (by omega)]; omega
end Go.Proofs.YtkdndabpaajkaaaGreatDoor.U8
namespace Go.Proofs.YtkdndabpaajkaaaGreatDoor.U8
open Go.RowKit Go.Proofs.YtkdndabpaajkaaaGreatDoor.A Go.Proofs.YtkdndabpaajkaaaGreatDoorW.PrintWords Go.Proofs.YtkdndabpaajkaaaGreatDoorW.PrintLast Go.Lib
set_option linter.unusedVariables false
set_option linter.unusedSimpArgs false
theorem enc_rune2 (r : Nat) (hv : r < 55296 ∨ (57343 < r ∧ r ≤ 1114111)) : (Utf8.encode (r : Int)).data.toList = encodeRune (r : Int) := by
  have hvalid : Utf8.valid (r : Int) = true := by
    unfold Utf8.valid
    simp only [Bool.or_eq_true, Bool.and_eq_true, decide_eq_true_eq]
    omega
  unfold Utf8.encode encodeRune
  simp only [hvalid, if_true, Int.toNat_natCast]
  by_cases c1 : r < 128
  · rw [if_pos c1, encodeRuneZ_one (by omega) (by omega)]; simp
  by_cases c2 : r < 2048
  · rw [if_neg c1, if_pos c2, encodeRuneZ_two (by omega) (by omega)]
    simp only [List.map_cons, List.map_nil]
    rw [show (192 + (r : Int) / 64).toNat = 192 + r / 64 by omega, show (128 + (r : Int) % 64).toNat = 128 + r % 64 by omega]
  by_cases c3 : r < 65536
  · rw [if_neg c1, if_neg c2, if_pos c3, encodeRuneZ_three (by omega)]
    simp only [List.map_cons, List.map_nil]
    rw [show (224 + (r : Int) / 4096).toNat = 224 + r / 4096 by omega, show (128 + (r : Int) / 64 % 64).toNat = 128 + r / 64 % 64 by omega, show (128 + (r : Int) % 64).toNat = 128 + r % 64 by omega]
  · rw [if_neg c1, if_neg c2, if_neg c3, encodeRuneZ_four (by omega) (by omega)]
    simp only [List.map_cons, List.map_nil]
    rw [show (240 + (r : Int) / 262144).toNat = 240 + r / 262144 by omega, show (128 + (r : Int) / 4096 % 64).toNat = 128 + r / 4096 % 64 by omega, show (128 + (r : Int) / 64 % 64).toNat = 128 + r / 64 % 64 by omega, show (128 + (r : Int) % 64).toNat = 128 + r % 64 by omega]
theorem foldl_enc : ∀ (cs : List Nat) (r : ByteArray), (∀ c ∈ cs, okC c) → ((ints cs).foldl (fun r n => r ++ Utf8.encode n) r).data.toList = r.data.toList ++ encL cs
  | [], r, _ => (List.append_nil _).symm
  | c :: cs, r, ho => by
    have ih := foldl_enc cs (r ++ Utf8.encode (c : Int)) (fun x hx => ho x (List.mem_cons_of_mem _ hx))
    refine ih.trans ?_
    rw [ByteArray.data_append, Array.toList_append, enc_rune2 c (ho c List.mem_cons_self), encL, List.append_assoc]
theorem runesBytes_enc (cs : List Nat) (ho : ∀ c ∈ cs, okC c) : runesBytes (ints cs) = ⟨(encL cs).toArray⟩ := by
  refine ByteArray.ext (Array.ext' ?_)
  exact foldl_enc cs ByteArray.empty ho
def foldB (s : ByteArray) : ByteArray := if validD s.data.toList = true then ⟨(encL ((runesOf s.data.toList).map smallN)).toArray⟩ else s
theorem fold_q (s : ByteArray) (hs : s.size < 1000000) : name_Fold.f s = some (foldB s) := by
  unfold name_Fold.f foldB
  rw [if_pos (show s.size ≤ 1099511627776 by omega)]
  by_cases hv : validD s.data.toList = true
  · obtain ⟨e1, o1⟩ := valid_runesL _ hv
    have hm : ∀ c ∈ (runesOf s.data.toList).map smallN, okC c := by
      intro c hc
      obtain ⟨x, hx, rfl⟩ := List.mem_map.1 hc
      exact (small_ok x (o1 x hx)).1
    rw [if_pos hv, if_pos hv, fold_go s _ (s.size + 1) 0 [] o1 (Nat.zero_le _) e1.symm (by omega), Option.bind_some, List.nil_append, runesBytes_enc _ hm]
  · rw [if_neg hv, if_neg hv]
theorem encL_len2 : ∀ cs : List Nat, cs.length ≤ (encL cs).length
  | [] => Nat.le_refl _
  | c :: cs => by
    have := encL_len2 cs; have := enc_pos c
    rw [encL, List.length_append, List.length_cons]; omega
end Go.Proofs.YtkdndabpaajkaaaGreatDoor.U8
namespace Go.Proofs.YtkdndabpaajkaaaGreatDoor.U8
open Go.RowKit Go.Proofs.YtkdndabpaajkaaaGreatDoor.A Go.Proofs.YtkdndabpaajkaaaGreatDoorW.PrintWords Go.Proofs.YtkdndabpaajkaaaGreatDoorW.PrintLast Go.Lib
set_option linter.unusedVariables false
set_option linter.unusedSimpArgs false
theorem cmp_rune (a b : Int) : cmp_Compare_rune.f a b = some (if a < b then -1 else if b < a then 1 else 0) := by
  unfold cmp_Compare_rune.f cmp_isNaN_rune.f
  simp only [bne_self_eq_false, Option.bind_some, Bool.false_eq_true, if_false, ne_eq, not_true_eq_false, decide_false, gt_iff_lt]
  split
  · rfl
  · split <;> rfl
theorem rdd (x : List Int) (i : Nat) (h : i < x.length) : rd x (i : Int) = x[i] := by
  unfold rd
  rw [Int.toNat_natCast, List.getD_eq_getElem?_getD, List.getElem?_eq_getElem h]; rfl
theorem slcmp_l0 (x y : List Int) (hl : x.length < 100000) (k : Nat) : ∀ (m i : Nat), i + m = x.length → slices_Compare_rune_rune.l0 (k + m + 1) x y x (x.length : Int) (i : Int) = some (cmpI (x.drop i) (y.drop i))
  | 0, i, hi => by
    have h1 : ¬ ((i : Int) < (x.length : Int)) := by omega
    rw [slices_Compare_rune_rune.l0, if_neg h1, List.drop_of_length_le (show x.length ≤ i by omega)]
    by_cases h : x.length < y.length
    · rw [if_pos (show (x.length : Int) < (y.length : Int) by omega), List.drop_eq_getElem_cons (show i < y.length by omega)]; rfl
    · rw [if_neg (show ¬ (x.length : Int) < (y.length : Int) by omega), List.drop_of_length_le (show y.length ≤ i by omega)]; rfl
  | m + 1, i, hi => by
    have hx : i < x.length := by omega
    have h1 : (i : Int) < (x.length : Int) := by omega
    have w1 : wrap64 ((i : Int) + 1) = ((i + 1 : Nat) : Int) := w1n2 i (by omega)
    have ih := slcmp_l0 x y hl k m (i + 1) (by omega)
    rw [show k + (m + 1) + 1 = (k + m + 1) + 1 from rfl, slices_Compare_rune_rune.l0, if_pos h1, if_pos (Int.natCast_nonneg i), if_pos h1, List.drop_eq_getElem_cons hx]
    by_cases hy : i < y.length
    · have h2 : (i : Int) < (y.length : Int) := by omega
      have h3 : ¬ ((i : Int) ≥ (y.length : Int)) := by omega
      rw [if_neg h3, if_pos h2, rdd x i hx, rdd y i hy, cmp_rune, Option.bind_some, w1, ih, List.drop_eq_getElem_cons hy, cmpI]
      by_cases c1 : x[i] < y[i]
      · rw [if_pos c1, if_pos c1, if_neg (by decide)]
      rw [if_neg c1, if_neg c1]
      by_cases c2 : y[i] < x[i]
      · rw [if_pos c2, if_pos c2, if_neg (by decide)]
      · rw [if_neg c2, if_neg c2, if_pos rfl]
    · have h3 : (i : Int) ≥ (y.length : Int) := by omega
      rw [if_pos h3, List.drop_of_length_le (show y.length ≤ i by omega)]; rfl
theorem slcmp_q (x y : List Int) (hl : x.length < 100000) (k : Nat) (hk : x.length + 1 ≤ k) : slices_Compare_rune_rune.f k x y = some (cmpI x y) := by
  have h := slcmp_l0 x y hl (k - x.length - 1) x.length 0 (by omega)
  rw [show k - x.length - 1 + x.length + 1 = k by omega] at h
  unfold slices_Compare_rune_rune.f
  exact h
end Go.Proofs.YtkdndabpaajkaaaGreatDoor.U8
namespace Go.Proofs.YtkdndabpaajkaaaGreatDoor.U8
open Go.RowKit Go.Proofs.YtkdndabpaajkaaaGreatDoor.A Go.Proofs.YtkdndabpaajkaaaGreatDoorW.PrintWords Go.Proofs.YtkdndabpaajkaaaGreatDoorW.PrintLast Go.Lib
set_option linter.unusedVariables false
set_option linter.unusedSimpArgs false
theorem runesI_go (s : ByteArray) : ∀ (cs : List Nat) (b pos : Nat), (∀ c ∈ cs, okC c) → pos ≤ s.size → s.data.toList.drop pos = encL cs → s.size - pos ≤ b → runesI s b pos = ints cs
  | [], 0, pos, ho, hp, hd, hf => rfl
  | c :: cs, 0, pos, ho, hp, hd, hf => by
    have hl := congrArg List.length hd
    have hp1 := enc_pos c
    rw [List.length_drop, ← size_len, encL, List.length_append] at hl
    omega
  | [], b + 1, pos, ho, hp, hd, hf => by
    have hl := congrArg List.length hd
    rw [List.length_drop, ← size_len] at hl
    have e : (encL []).length = 0 := rfl
    rw [runesI, if_neg (by omega)]; rfl
  | c :: cs, b + 1, pos, ho, hp, hd, hf => by
    have hl := congrArg List.length hd
    have hp1 := enc_pos c
    rw [List.length_drop, ← size_len, encL, List.length_append] at hl
    have hlt : pos < s.size := by omega
    have hdec : dec (s.data.toList.drop pos) = (c, (encodeRune (c : Int)).length) := by rw [hd, encL]; exact dec_encode c (ho c (List.mem_cons_self ..)) _
    have e : Utf8.decode s pos = (c, (encodeRune (c : Int)).length) := by
      rw [decode_dec s pos hlt (by rw [hdec]; show (encodeRune (c : Int)).length ≠ 0; omega), hdec]
    have ih := runesI_go s cs b (pos + (encodeRune (c : Int)).length) (fun x hx => ho x (List.mem_cons_of_mem _ hx)) (by omega) (by rw [← List.drop_drop, hd, encL, List.drop_left]) (by omega)
    rw [runesI, if_pos hlt, e]
    dsimp only
    rw [ih]; rfl
theorem fold_ok (s : ByteArray) (hv : validD s.data.toList = true) : ∀ c ∈ (runesOf s.data.toList).map smallN, okC c := by
  obtain ⟨e1, o1⟩ := valid_runesL _ hv
  intro c hc
  obtain ⟨x, hx, rfl⟩ := List.mem_map.1 hc
  exact (small_ok x (o1 x hx)).1
theorem fold_list (s : ByteArray) (hv : validD s.data.toList = true) : (foldB s).data.toList = encL ((runesOf s.data.toList).map smallN) := by
  unfold foldB
  rw [if_pos hv]
theorem fold_valid (s : ByteArray) (hv : validD s.data.toList = true) : validD (foldB s).data.toList = true ∧ runesOf (foldB s).data.toList = (runesOf s.data.toList).map smallN := by
  have h := runes_enc _ _ (fold_ok s hv) (Nat.le_refl _)
  rw [fold_list s hv, validD_validF]
  exact ⟨h.2, h.1⟩
theorem encL_four : ∀ cs : List Nat, (encL cs).length ≤ 4 * cs.length
  | [] => Nat.le_refl _
  | c :: cs => by
    have h1 := encL_four cs
    have h4 : (encodeRune (c : Int)).length ≤ 4 := by unfold encodeRune; rw [List.length_map]; exact (encodeRuneZ_length (c : Int)).2
    rw [encL, List.length_append, List.length_cons]; omega
theorem fold_size (s : ByteArray) (hv : validD s.data.toList = true) : (foldB s).size ≤ 4 * s.size ∧ (runesOf s.data.toList).length ≤ s.size := by
  obtain ⟨e1, o1⟩ := valid_runesL _ hv
  have hlen : (runesOf s.data.toList).length ≤ s.size := by
    have := encL_len2 (runesOf s.data.toList)
    rw [e1, ← size_len] at this; exact this
  have h := encL_four ((runesOf s.data.toList).map smallN)
  rw [← fold_list s hv, ← size_len, List.length_map] at h
  exact ⟨by omega, hlen⟩
def cmpB (a b : ByteArray) : Int := cmpI (ints ((runesOf a.data.toList).map smallN)) (ints ((runesOf b.data.toList).map smallN))
theorem runesI_fold (s : ByteArray) (hv : validD s.data.toList = true) : runesI (foldB s) (foldB s).size 0 = ints ((runesOf s.data.toList).map smallN) :=
  runesI_go (foldB s) _ _ 0 (fold_ok s hv) (Nat.zero_le _) (fold_list s hv) (by omega)
theorem compare_q (a b : ByteArray) (ha : a.size < 20000) (hb : b.size < 20000) (va : validD a.data.toList = true) (vb : validD b.data.toList = true) (k : Nat) (hk : a.size + 1 ≤ k) : name_Compare.f k a b = some (cmpB a b) := by
  obtain ⟨a1, a2⟩ := fold_size a va
  obtain ⟨b1, b2⟩ := fold_size b vb
  unfold name_Compare.f cmpB
  rw [fold_q a (by omega), Option.bind_some, fold_q b (by omega), Option.bind_some, if_pos (show (foldB a).size ≤ 1099511627776 by omega), if_pos (show (foldB b).size ≤ 1099511627776 by omega), if_pos (fold_valid a va).1, if_pos (fold_valid b vb).1, runesI_fold a va, runesI_fold b vb]
  have hl : (ints ((runesOf a.data.toList).map smallN)).length = (runesOf a.data.toList).length := by unfold ints; rw [List.length_map, List.length_map]
  exact slcmp_q _ _ (by omega) k (by omega)
end Go.Proofs.YtkdndabpaajkaaaGreatDoor.U8
namespace Go.Proofs.YtkdndabpaajkaaaGreatDoor.U8
open Go.RowKit Go.Proofs.YtkdndabpaajkaaaGreatDoor.A Go.Proofs.YtkdndabpaajkaaaGreatDoorW.PrintWords Go.Proofs.YtkdndabpaajkaaaGreatDoorW.PrintLast Go.Lib
set_option linter.unusedVariables false
set_option linter.unusedSimpArgs false
def letB (c : Int) : Bool := (65 ≤ c && c ≤ 90) || (97 ≤ c && c ≤ 122) || (192 ≤ c && c ≤ 591 && c != 215 && c != 247) || (913 ≤ c && c ≤ 937 && c != 930) || (945 ≤ c && c ≤ 969) || (1040 ≤ c && c ≤ 1103) || (19968 ≤ c && c ≤ 40959)
theorem letter_q (c : Int) (k : Nat) : name_Letter.f (k + 1) c = some (letB c) := by
  by_cases e1 : c = 215
  · subst e1; rfl
  by_cases e2 : c = 247
  · subst e2; rfl
  by_cases e3 : c = 930
  · subst e3; rfl
  have n1 : (c = 215) = False := eq_false e1
  have m1 : (c != 215) = true := bne_iff_ne.2 e1
  have m2 : (c != 247) = true := bne_iff_ne.2 e2
  have m3 : (c != 930) = true := bne_iff_ne.2 e3
  have cs : c < 65 ∨ (65 ≤ c ∧ c < 91) ∨ (91 ≤ c ∧ c < 97) ∨ (97 ≤ c ∧ c < 123) ∨ (123 ≤ c ∧ c < 192) ∨ (192 ≤ c ∧ c < 592) ∨ (592 ≤ c ∧ c < 913) ∨ (913 ≤ c ∧ c < 938) ∨ (938 ≤ c ∧ c < 945) ∨ (945 ≤ c ∧ c < 970) ∨ (970 ≤ c ∧ c < 1040) ∨ (1040 ≤ c ∧ c < 1104) ∨ (1104 ≤ c ∧ c < 19968) ∨ (19968 ≤ c ∧ c < 40960) ∨ 40960 ≤ c := by omega
  rcases cs with h | h | h | h | h | h | h | h | h | h | h | h | h | h | h
  all_goals (
    (first | have l65 : (65 ≤ c) = True := eq_true (by omega) | have l65 : (65 ≤ c) = False := eq_false (by omega)); (first | have u90 : (c ≤ 90) = True := eq_true (by omega) | have u90 : (c ≤ 90) = False := eq_false (by omega));
    (first | have l97 : (97 ≤ c) = True := eq_true (by omega) | have l97 : (97 ≤ c) = False := eq_false (by omega)); (first | have u122 : (c ≤ 122) = True := eq_true (by omega) | have u122 : (c ≤ 122) = False := eq_false (by omega));
    (first | have l192 : (192 ≤ c) = True := eq_true (by omega) | have l192 : (192 ≤ c) = False := eq_false (by omega)); (first | have u591 : (c ≤ 591) = True := eq_true (by omega) | have u591 : (c ≤ 591) = False := eq_false (by omega));
    (first | have l913 : (913 ≤ c) = True := eq_true (by omega) | have l913 : (913 ≤ c) = False := eq_false (by omega)); (first | have u937 : (c ≤ 937) = True := eq_true (by omega) | have u937 : (c ≤ 937) = False := eq_false (by omega));
    (first | have l945 : (945 ≤ c) = True := eq_true (by omega) | have l945 : (945 ≤ c) = False := eq_false (by omega)); (first | have u969 : (c ≤ 969) = True := eq_true (by omega) | have u969 : (c ≤ 969) = False := eq_false (by omega));
    (first | have l1040 : (1040 ≤ c) = True := eq_true (by omega) | have l1040 : (1040 ≤ c) = False := eq_false (by omega)); (first | have u1103 : (c ≤ 1103) = True := eq_true (by omega) | have u1103 : (c ≤ 1103) = False := eq_false (by omega));
    (first | have l19968 : (19968 ≤ c) = True := eq_true (by omega) | have l19968 : (19968 ≤ c) = False := eq_false (by omega)); (first | have u40959 : (c ≤ 40959) = True := eq_true (by omega) | have u40959 : (c ≤ 40959) = False := eq_false (by omega))
    )
  all_goals simp only [name_Letter.f, name_Letter.j0, name_between.f, letB, ge_iff_le, n1, m1, m2, m3, l65, u90, l97, u122, l192, u591, l913, u937, l945, u969, l1040, u1103, l19968, u40959, Option.bind_some, if_true, if_false, decide_true, decide_false, Bool.and_true, Bool.and_false, Bool.true_and, Bool.false_and, Bool.or_true, Bool.or_false, Bool.true_or, Bool.false_or, Bool.false_eq_true]
end Go.Proofs.YtkdndabpaajkaaaGreatDoor.U8
namespace Go.Proofs.YtkdndabpaajkaaaGreatDoor.U8
open Go.RowKit Go.Proofs.YtkdndabpaajkaaaGreatDoor.A Go.Proofs.YtkdndabpaajkaaaGreatDoorW.PrintWords Go.Proofs.YtkdndabpaajkaaaGreatDoorW.PrintLast Go.Lib
set_option linter.unusedVariables false
set_option linter.unusedSimpArgs false
def formG : Bool → List Nat → Bool
  | first, [] => !first
  | first, c :: cs => if c = 46 then (if first = true then false else formG true cs)
    else if letB (c : Int) = true ∨ c = 95 then formG false cs
    else if first = false ∧ ((48 ≤ c ∧ c ≤ 57) ∨ c = 45) then formG false cs else false
theorem nameDigit_q (c : Int) : name_digit.f c = some (decide (48 ≤ c) && decide (c ≤ 57)) := by
  unfold name_digit.f name_between.f
  by_cases h : c ≥ 48
  · rw [if_pos h, Option.bind_some, decide_eq_true (show 48 ≤ c by omega)]; rfl
  · rw [if_neg h, Option.bind_some, decide_eq_false (show ¬ 48 ≤ c by omega)]; rfl
theorem form_st (k : Nat) (first : Bool) (c : Nat) : ∃ t, name_formed.st (k + 1) first (c : Int) = some t ∧
    ((t = 0 ∧ ∀ cs, formG first (c :: cs) = false) ∨ (t = 1 ∧ ∀ cs, formG first (c :: cs) = formG false cs) ∨ (t = 2 ∧ ∀ cs, formG first (c :: cs) = formG true cs)) := by
  unfold name_formed.st
  by_cases h46 : c = 46
  · subst h46
    rw [if_pos (by decide)]
    cases first with
    | true => exact ⟨0, rfl, .inl ⟨rfl, fun cs => by rw [formG]; rfl⟩⟩
    | false => exact ⟨2, rfl, .inr (.inr ⟨rfl, fun cs => by rw [formG]; rfl⟩)⟩
  rw [if_neg (by omega), letter_q (c : Int) k, Option.bind_some]
  by_cases hl : letB (c : Int) = true
  · rw [if_pos hl]
    exact ⟨1, rfl, .inr (.inl ⟨rfl, fun cs => by rw [formG, if_neg h46, if_pos (.inl hl)]⟩)⟩
  rw [if_neg hl]
  by_cases h95 : c = 95
  · rw [if_pos (by omega)]
    exact ⟨1, rfl, .inr (.inl ⟨rfl, fun cs => by rw [formG, if_neg h46, if_pos (.inr h95)]⟩)⟩
  have hno : ¬ (letB (c : Int) = true ∨ c = 95) := fun h => h.elim hl h95
  rw [if_neg (by omega)]
  cases first with
  | true =>
    exact ⟨0, rfl, .inl ⟨rfl, fun cs => by rw [formG, if_neg h46, if_neg hno, if_neg (fun h => by cases h.1)]⟩⟩
  | false =>
    rw [if_neg (by decide), nameDigit_q, Option.bind_some]
    by_cases hd : 48 ≤ c ∧ c ≤ 57
    · rw [if_pos (by rw [decide_eq_true (by omega), decide_eq_true (by omega)]; rfl)]
      exact ⟨1, rfl, .inr (.inl ⟨rfl, fun cs => by rw [formG, if_neg h46, if_neg hno, if_pos ⟨rfl, .inl hd⟩]⟩)⟩
    have hnd : ¬ ((decide (48 ≤ (c : Int)) && decide ((c : Int) ≤ 57)) = true) := by
      rw [Bool.and_eq_true, decide_eq_true_eq, decide_eq_true_eq]; omega
    rw [if_neg hnd]
    by_cases h45 : c = 45
    · rw [if_pos (by omega)]
      exact ⟨1, rfl, .inr (.inl ⟨rfl, fun cs => by rw [formG, if_neg h46, if_neg hno, if_pos ⟨rfl, .inr h45⟩]⟩)⟩
    · rw [if_neg (by omega)]
      exact ⟨0, rfl, .inl ⟨rfl, fun cs => by rw [formG, if_neg h46, if_neg hno, if_neg (fun h => h.2.elim hd h45)]⟩⟩
theorem form_go (s : ByteArray) (k : Nat) : ∀ (cs : List Nat) (f pos : Nat) (first : Bool), (∀ c ∈ cs, okC c) → pos ≤ s.size → s.data.toList.drop pos = encL cs → s.size - pos < f → name_formed.go (k + 1) s f pos first = some (formG first cs)
  | cs, 0, pos, first, ho, hp, hd, hf => by omega
  | [], f + 1, pos, first, ho, hp, hd, hf => by
    have hl := congrArg List.length hd
    rw [List.length_drop, ← size_len] at hl
    have e : (encL []).length = 0 := rfl
    rw [name_formed.go, if_neg (by omega)]; rfl
  | c :: cs, f + 1, pos, first, ho, hp, hd, hf => by
    have hl := congrArg List.length hd
    have hp1 := enc_pos c
    rw [List.length_drop, ← size_len, encL, List.length_append] at hl
    have hlt : pos < s.size := by omega
    have hdec : dec (s.data.toList.drop pos) = (c, (encodeRune (c : Int)).length) := by rw [hd, encL]; exact dec_encode c (ho c (List.mem_cons_self ..)) _
    have e : Utf8.decode s pos = (c, (encodeRune (c : Int)).length) := by
      rw [decode_dec s pos hlt (by rw [hdec]; show (encodeRune (c : Int)).length ≠ 0; omega), hdec]
    obtain ⟨t, t1, t2⟩ := form_st k first c
    have ih := fun b => form_go s k cs f (pos + (encodeRune (c : Int)).length) b (fun x hx => ho x (List.mem_cons_of_mem _ hx)) (by omega) (by rw [← List.drop_drop, hd, encL, List.drop_left]) (by omega)
    rw [name_formed.go, if_pos hlt, e]
    dsimp only
    rw [t1, Option.bind_some]
    rcases t2 with ⟨rfl, h⟩ | ⟨rfl, h⟩ | ⟨rfl, h⟩
    · rw [if_pos rfl, h]
    · rw [if_neg (by decide), h]; exact ih false
    · rw [if_neg (by decide), h]; exact ih true
def formedB (s : ByteArray) : Bool := decide (s.size ≠ 0) && (validD s.data.toList && formG true (runesOf s.data.toList))
theorem formed_q (s : ByteArray) (hs : s.size < 1000000) (k : Nat) : name_formed.f (k + 1) s = some (formedB s) := by
  unfold name_formed.f formedB
  rw [if_pos (by omega)]
  by_cases hz : s.size = 0
  · rw [if_pos ((toList_nil s).2 hz), decide_eq_false (by omega)]; rfl
  rw [if_neg (fun h => hz ((toList_nil s).1 h)), decide_eq_true hz]
  by_cases hv : validD s.data.toList = true
  · obtain ⟨e1, o1⟩ := valid_runesL _ hv
    rw [if_pos hv, hv, form_go s k _ (s.size + 1) 0 true o1 (Nat.zero_le _) e1.symm (by omega)]; rfl
  · rw [if_neg hv, Bool.eq_false_iff.2 hv]; rfl
end Go.Proofs.YtkdndabpaajkaaaGreatDoor.U8
namespace Go.Proofs.YtkdndabpaajkaaaGreatDoor.U8
open Go.RowKit Go.Proofs.YtkdndabpaajkaaaGreatDoor.A Go.Proofs.YtkdndabpaajkaaaGreatDoorW.PrintWords Go.Proofs.YtkdndabpaajkaaaGreatDoorW.PrintLast Go.Lib
set_option linter.unusedVariables false
set_option linter.unusedSimpArgs false
theorem enc_high (c : Nat) (h : okC c) (hc : 128 ≤ c) : ∀ b ∈ encodeRune (c : Int), 128 ≤ b.toNat := by
  unfold okC at h
  unfold encodeRune
  intro b hb
  obtain ⟨x, hx, rfl⟩ := List.mem_map.1 hb
  have key : ∃ n : Nat, x = (n : Int) ∧ 128 ≤ n ∧ n < 256 := by
    by_cases c2 : c < 2048
    · rw [encodeRuneZ_two (by omega) (by omega)] at hx
      rcases List.mem_cons.1 hx with rfl | hx
      · exact ⟨192 + c / 64, by omega, by omega, by omega⟩
      rcases List.mem_cons.1 hx with rfl | hx
      · exact ⟨128 + c % 64, by omega, by omega, by omega⟩
      · cases hx
    by_cases c3 : c < 65536
    · rw [encodeRuneZ_three (by omega)] at hx
      rcases List.mem_cons.1 hx with rfl | hx
      · exact ⟨224 + c / 4096, by omega, by omega, by omega⟩
      rcases List.mem_cons.1 hx with rfl | hx
      · exact ⟨128 + c / 64 % 64, by omega, by omega, by omega⟩
      rcases List.mem_cons.1 hx with rfl | hx
      · exact ⟨128 + c % 64, by omega, by omega, by omega⟩
      · cases hx
    · rw [encodeRuneZ_four (by omega) (by omega)] at hx
      rcases List.mem_cons.1 hx with rfl | hx
      · exact ⟨240 + c / 262144, by omega, by omega, by omega⟩
      rcases List.mem_cons.1 hx with rfl | hx
      · exact ⟨128 + c / 4096 % 64, by omega, by omega, by omega⟩
      rcases List.mem_cons.1 hx with rfl | hx
      · exact ⟨128 + c / 64 % 64, by omega, by omega, by omega⟩
      rcases List.mem_cons.1 hx with rfl | hx
      · exact ⟨128 + c % 64, by omega, by omega, by omega⟩
      · cases hx
  obtain ⟨n, rfl, h1, h2⟩ := key
  rw [Int.toNat_natCast, u8n n h2]
  exact h1
theorem count_enc (k : Nat) (hk : k < 128) : ∀ cs : List Nat, (∀ c ∈ cs, okC c) → (encL cs).count k.toUInt8 = cs.count k
  | [], _ => rfl
  | c :: cs, ho => by
    rw [encL, List.count_append, count_enc k hk cs (fun x hx => ho x (List.mem_cons_of_mem _ hx)), List.count_cons]
    have e : (encodeRune (c : Int)).count k.toUInt8 = if (c == k) = true then 1 else 0 := by
      by_cases h1 : c < 128
      · unfold encodeRune
        rw [encodeRuneZ_one (by omega) (by omega)]
        show [((c : Int).toNat.toUInt8)].count k.toUInt8 = _
        rw [Int.toNat_natCast, List.count_cons, List.count_nil, Nat.zero_add]
        by_cases hck : c = k
        · rw [hck, if_pos (beq_self_eq_true _), if_pos (beq_self_eq_true _)]
        · rw [if_neg (fun h => hck ?_), if_neg (fun h => hck (eq_of_beq h))]
          have h2 := congrArg UInt8.toNat (eq_of_beq h)
          rw [u8n c (by omega), u8n k (by omega)] at h2
          exact h2
      · rw [if_neg (fun h => by have := eq_of_beq h; omega), List.count_eq_zero]
        intro hm
        have := enc_high c (ho c List.mem_cons_self) (by omega) _ hm
        rw [u8n k (by omega)] at this
        omega
    rw [e]; omega
def checkN (s : ByteArray) : Int := if formedB s = true then (if (runesOf s.data.toList).length > 40 then 2 else if (runesOf s.data.toList).count 46 ≥ 5 then 2 else 0) else 3
theorem formed_valid (s : ByteArray) (h : formedB s = true) : s.size ≠ 0 ∧ validD s.data.toList = true ∧ formG true (runesOf s.data.toList) = true := by
  unfold formedB at h
  rw [Bool.and_eq_true, Bool.and_eq_true] at h
  exact ⟨of_decide_eq_true h.1, h.2.1, h.2.2⟩
theorem check_name (s : ByteArray) (hs : s.size < 1000000) (k : Nat) : name_Check.f (k + 1) s = some (checkN s) := by
  unfold name_Check.f checkN
  rw [formed_q s hs, Option.bind_some]
  by_cases hf : formedB s = true
  · obtain ⟨h0, hv, hg⟩ := formed_valid s hf
    rw [if_pos hf, if_pos hf]
    unfold utf8_RuneCountInString.f strings_Count.f
    rw [if_pos (show s.size < 9223372036854775807 by omega), Option.bind_some, count_ev s hv]
    obtain ⟨e1, o1⟩ := valid_runesL _ hv
    have hc : Lib.countByte s.data.toList (([46] : List UInt8).getD 0 0) = (runesOf s.data.toList).count 46 := by
      have := count_enc 46 (by omega) _ o1
      rw [e1] at this
      exact this
    by_cases h1 : (runesOf s.data.toList).length > 40
    · rw [if_pos (show ((runesOf s.data.toList).length : Int) > 40 by omega), if_pos h1]
    rw [if_neg (show ¬ ((runesOf s.data.toList).length : Int) > 40 by omega), if_neg h1]
    show (some ((Lib.countByte s.data.toList (([46] : List UInt8).getD 0 0) : Nat) : Int)).bind _ = _
    rw [hc, Option.bind_some]
    by_cases h2 : (runesOf s.data.toList).count 46 ≥ 5
    · rw [if_pos (show (((runesOf s.data.toList).count 46 : Nat) : Int) ≥ 5 by omega), if_pos h2]
    · rw [if_neg (show ¬ (((runesOf s.data.toList).count 46 : Nat) : Int) ≥ 5 by omega), if_neg h2]
  · rw [if_neg hf, if_neg hf]
end Go.Proofs.YtkdndabpaajkaaaGreatDoor.U8
namespace Go.Proofs.YtkdndabpaajkaaaGreatDoor.U8
open Go.RowKit Go.Proofs.YtkdndabpaajkaaaGreatDoor.A Go.Proofs.YtkdndabpaajkaaaGreatDoorW.PrintWords Go.Proofs.YtkdndabpaajkaaaGreatDoorW.PrintLast Go.Lib
set_option linter.unusedVariables false
set_option linter.unusedSimpArgs false
def simpleB (s : ByteArray) : Bool := decide (checkN s = 0) && decide ((runesOf s.data.toList).count 46 = 0)
theorem check0 (s : ByteArray) (h : checkN s = 0) : formedB s = true := by
  unfold checkN at h
  by_cases hf : formedB s = true
  · exact hf
  · rw [if_neg hf] at h; omega
theorem simple_q (s : ByteArray) (hs : s.size < 1000000) (k : Nat) : schema_simple.f (k + 1) s = some (simpleB s) := by
  unfold schema_simple.f name_Parts.f simpleB
  rw [check_name s hs, Option.bind_some]
  by_cases h : checkN s = 0
  · obtain ⟨h0, hv, hg⟩ := formed_valid s (check0 s h)
    obtain ⟨e1, o1⟩ := valid_runesL _ hv
    rw [if_pos h, Option.bind_some, if_pos h, decide_eq_true h, Bool.true_and]
    unfold strings_Split.f
    rw [if_pos (show s.size < 4294967281 by omega), if_pos (by decide), Option.bind_some, Option.bind_some]
    have hl := Lib.splitB_all (⟨#[46]⟩ : ByteArray) (by decide) 0 (Lib.countB s ⟨#[46]⟩) s rfl
    have hc : Lib.countB s ⟨#[46]⟩ = (runesOf s.data.toList).count 46 := by
      have h1 := count_enc 46 (by omega) _ o1
      rw [e1] at h1
      exact (Lib.count_one 46 s.data.toList).trans h1
    rw [hl, hc]
    by_cases hz : (runesOf s.data.toList).count 46 = 0
    · rw [decide_eq_true hz, hz]; rfl
    · rw [decide_eq_false hz]
      refine congrArg some (beq_eq_false_iff_ne.2 ?_)
      omega
  · rw [if_neg h, decide_eq_false h, Bool.false_and]
end Go.Proofs.YtkdndabpaajkaaaGreatDoor.U8
namespace Go.Proofs.YtkdndabpaajkaaaGreatDoor.U8
open Go.RowKit Go.Proofs.YtkdndabpaajkaaaGreatDoor.A Go.Proofs.YtkdndabpaajkaaaGreatDoorW.PrintWords Go.Proofs.YtkdndabpaajkaaaGreatDoorW.PrintLast Go.Lib
set_option linter.unusedVariables false
set_option linter.unusedSimpArgs false
end Go.Proofs.YtkdndabpaajkaaaGreatDoor.U8
namespace Go.Proofs.YtkdndabpaajkaaaGreatDoor.U8
open Go.RowKit Go.Proofs.YtkdndabpaajkaaaGreatDoor.A Go.Proofs.YtkdndabpaajkaaaGreatDoorW.PrintWords Go.Proofs.YtkdndabpaajkaaaGreatDoorW.PrintLast Go.Lib
set_option linter.unusedVariables false
set_option linter.unusedSimpArgs false
def ordB {α : Type} (P : α → Bool) (R : α → α → Bool) : Option α → List α → Bool
  | _, [] => true
  | none, x :: xs => P x && ordB P R (some x) xs
  | some y, x :: xs => P x && (R y x && ordB P R (some x) xs)
def lastO {α : Type} (pre : List α) : Option α := pre.getLast?
theorem lastO_nil {α : Type} : lastO ([] : List α) = none := rfl
theorem lastO_snoc {α : Type} (q : List α) (y : α) : lastO (q ++ [y]) = some y := by unfold lastO; simp
theorem snoc_cases {α : Type} (pre : List α) : pre = [] ∨ ∃ q y, pre = q ++ [y] := by
  rcases List.eq_nil_or_concat pre with h | ⟨q, y, h⟩
  · exact .inl h
  · exact .inr ⟨q, y, by rw [h, List.concat_eq_append]⟩
theorem dec_le (n m : Nat) : (decide ((n : Int) ≤ (m : Int))) = decide (n ≤ m) := by
  by_cases h : n ≤ m
  · rw [decide_eq_true h, decide_eq_true (by omega)]
  · rw [decide_eq_false h, decide_eq_false (by omega)]
theorem simple_valid (s : ByteArray) (h : simpleB s = true) : validD s.data.toList = true := by
  unfold simpleB at h
  rw [Bool.and_eq_true, decide_eq_true_eq] at h
  exact (formed_valid s (check0 s h.1)).2.1
theorem cmp_ev (a b : ByteArray) (ha : a.size < 20000) (hb : b.size < 20000) (va : validD a.data.toList = true) (vb : validD b.data.toList = true) : Evn (fun k => name_Compare.f k a b) (cmpB a b) := Evn.of _ (fun k hk => compare_q a b ha hb va vb k hk)
end Go.Proofs.YtkdndabpaajkaaaGreatDoor.U8
namespace Go.Proofs.YtkdndabpaajkaaaGreatDoor.U8
open Go.RowKit Go.Proofs.YtkdndabpaajkaaaGreatDoor.A Go.Proofs.YtkdndabpaajkaaaGreatDoorW.PrintWords Go.Proofs.YtkdndabpaajkaaaGreatDoorW.PrintLast Go.Lib
set_option linter.unusedVariables false
set_option linter.unusedSimpArgs false
abbrev Att := S76
def valB (n i : Int) (s : ByteArray) : Bool := (value_Check.f n i s).getD false
theorem val_total (a0 a1 : Int) (a2 : ByteArray) : ∃ b, value_Check.f a0 a1 a2 = some b := by
  unfold value_Check.f
  by_cases hs : (a2.size : Int) ≤ 200
  · have : utf8_ValidString.f a2 = some (Go.Lib.validD a2.data.toList) := by
      unfold utf8_ValidString.f; rw [if_pos (by omega)]
    rw [this]
    simp only [Option.bind_some]
    repeat' split
    all_goals exact ⟨_, rfl⟩
  · simp only [hs, if_false]
    repeat' split
    all_goals exact ⟨_, rfl⟩
theorem val_q (n i : Int) (s : ByteArray) : value_Check.f n i s = some (valB n i s) := by
  obtain ⟨b, h⟩ := val_total n i s
  unfold valB
  rw [h]; rfl
def attX (x : Att) : Bool := simpleB x.f0 && valB x.f1.f0 x.f1.f1 x.f1.f2
def ltA (x y : Att) : Bool := decide (cmpB x.f0 y.f0 < 0)
def checkA (l : List Att) : Bool := ordB attX ltA none l && decide (l.length ≤ 24)
theorem attX_valid (x : Att) (h : attX x = true) : validD x.f0.data.toList = true := by
  unfold attX at h
  rw [Bool.and_eq_true] at h
  exact simple_valid _ h.1
theorem simple_ev (s : ByteArray) (hs : s.size < 1000000) : Evn (fun k => schema_simple.f k s) (simpleB s) := Evn.of1 (fun k => simple_q s hs k)
theorem schemaattrs_l0 (l : List Att) (hs : ∀ x ∈ l, x.f0.size < 20000) (hl : l.length < 100000) :
    ∀ post pre, l = pre ++ post → (∀ y, lastO pre = some y → attX y = true) → Evn (fun k => schema_Attrs.l0 k l l (l.length : Int) (pre.length : Int)) (ordB attX ltA (lastO pre) post && decide (l.length ≤ 24)) := by
  refine Evn.loop (g := fun k i => schema_Attrs.l0 k l l (l.length : Int) i) l (by omega) (fun pre => ∀ y, lastO pre = some y → attX y = true) (fun pre post => ordB attX ltA (lastO pre) post && decide (l.length ≤ 24)) ?_ ?_
  · intro hi hn
    refine Evn.step (fun k => schema_Attrs.l0.eq_2 ..) (Evn.neg hn (Evn.con ?_))
    rw [show (24 : Int) = ((24 : Nat) : Int) from rfl, dec_le]
    rcases snoc_cases l with rfl | ⟨q, y, rfl⟩
    · rfl
    · rw [lastO_snoc]; rfl
  · intro pre x post e hi hlt h0 hw hget hmem ih
    have hrd : rd_T76 l (pre.length : Int) = x := hget _
    have hsx := hs x hmem
    refine Evn.step (fun k => schema_Attrs.l0.eq_2 ..) (Evn.pos hlt (Evn.pos h0 (Evn.pos hlt ?_)))
    rw [hrd, hw]
    have ih' : attX x = true → _ := fun hx => ih (by intro y hy; rw [lastO_snoc] at hy; obtain rfl := Option.some.inj hy; exact hx)
    rw [lastO_snoc] at ih'
    rcases snoc_cases pre with rfl | ⟨q, y, rfl⟩
    · rw [lastO_nil]
      show Evn _ (((simpleB x.f0 && valB x.f1.f0 x.f1.f1 x.f1.f2) && ordB attX ltA (some x) post) && _)
      refine Evn.bind (simple_ev x.f0 (by omega)) ?_
      by_cases h0 : simpleB x.f0 = true
      case neg => exact Evn.val (by simp [h0]) (Evn.neg h0 (Evn.ret false))
      refine Evn.pos h0 ?_
      refine Evn.bind (Evn.con (val_q x.f1.f0 x.f1.f1 x.f1.f2)) ?_
      by_cases h1 : valB x.f1.f0 x.f1.f1 x.f1.f2 = true
      case neg => exact Evn.val (by simp [h1]) (Evn.neg h1 (Evn.ret false))
      refine Evn.pos h1 ?_
      have hx : attX x = true := by show (simpleB x.f0 && valB x.f1.f0 x.f1.f1 x.f1.f2) = true; simp [h0, h1]
      rw [h0, h1]
      show Evn _ (ordB attX ltA (some x) post && _)
      exact Evn.neg (by decide) (ih' hx)
    · rw [lastO_snoc]
      show Evn _ (((simpleB x.f0 && valB x.f1.f0 x.f1.f1 x.f1.f2) && (ltA y x && ordB attX ltA (some x) post)) && _)
      refine Evn.bind (simple_ev x.f0 (by omega)) ?_
      by_cases h0 : simpleB x.f0 = true
      case neg => exact Evn.val (by simp [h0]) (Evn.neg h0 (Evn.ret false))
      refine Evn.pos h0 ?_
      refine Evn.bind (Evn.con (val_q x.f1.f0 x.f1.f1 x.f1.f2)) ?_
      by_cases h1 : valB x.f1.f0 x.f1.f1 x.f1.f2 = true
      case neg => exact Evn.val (by simp [h1]) (Evn.neg h1 (Evn.ret false))
      refine Evn.pos h1 ?_
      have hx : attX x = true := by show (simpleB x.f0 && valB x.f1.f0 x.f1.f1 x.f1.f2) = true; simp [h0, h1]
      rw [h0, h1]
      show Evn _ ((ltA y x && ordB attX ltA (some x) post) && _)
      have hy := hi y (lastO_snoc q y)
      have hrq : rd_T76 l (q.length : Int) = y := by rw [e]; exact getDq q y _ _
      have hql : (q.length : Int) < (l.length : Int) := by rw [List.length_append] at hlt; omega
      have hym : y ∈ l := by rw [e]; simp
      rw [w1m q y (by omega), hrq]
      refine Evn.pos (by rw [List.length_append]; show ((q.length + 1 : Nat) : Int) > 0; omega) (Evn.pos (Int.natCast_nonneg _) (Evn.pos hql (Evn.bind (cmp_ev _ _ (hs y hym) (hs x hmem) (attX_valid y hy) (attX_valid x hx)) ?_)))
      unfold ltA
      by_cases hc : cmpB y.f0 x.f0 < 0
      · rw [decide_eq_true hc, Bool.true_and]
        exact Evn.neg (by omega) (ih' hx)
      · rw [decide_eq_false hc]
        exact Evn.pos (by omega) (Evn.ret _)
theorem schemaattrs_ev (l : List Att) (hs : ∀ x ∈ l, x.f0.size < 20000) (hl : l.length < 100000) : Evn (fun k => schema_Attrs.f k l) (ordB attX ltA none l && decide (l.length ≤ 24)) :=
  schemaattrs_l0 l hs hl l [] rfl (fun y h => by cases h)
theorem attrs_q (l : List Att) (hs : ∀ x ∈ l, x.f0.size < 20000) (hl : l.length < 100000) : Evn (fun k => schema_Attrs.f k l) (checkA l) := schemaattrs_ev l hs hl
end Go.Proofs.YtkdndabpaajkaaaGreatDoor.U8
namespace Go.Proofs.YtkdndabpaajkaaaGreatDoor.U8
open Go.RowKit Go.Proofs.YtkdndabpaajkaaaGreatDoor.A Go.Proofs.YtkdndabpaajkaaaGreatDoorW.PrintWords Go.Proofs.YtkdndabpaajkaaaGreatDoorW.PrintLast Go.Lib
set_option linter.unusedVariables false
set_option linter.unusedSimpArgs false
def fewS {α : Type} (P : α → Bool) : Nat → List α → Bool
  | _, [] => true
  | i, x :: xs => if i ≤ 40 then (if P x = true then fewS P (i + 1) xs else false) else false
theorem fewS_true {α : Type} (P : α → Bool) : ∀ (l : List α) (i : Nat), fewS P i l = true → (l = [] ∨ i + l.length ≤ 41) ∧ ∀ x ∈ l, P x = true
  | [], i, h => ⟨.inl rfl, fun x hx => by cases hx⟩
  | x :: xs, i, h => by
    rw [fewS] at h
    by_cases h1 : i ≤ 40
    · rw [if_pos h1] at h
      by_cases h2 : P x = true
      · rw [if_pos h2] at h
        obtain ⟨h3, h4⟩ := fewS_true P xs (i + 1) h
        refine ⟨.inr ?_, fun y hy => ?_⟩
        · rw [List.length_cons]
          rcases h3 with rfl | h3
          · show i + (0 + 1) ≤ 41; omega
          · omega
        · rcases List.mem_cons.1 hy with rfl | hy
          · exact h2
          · exact h4 y hy
      · rw [if_neg h2] at h; cases h
    · rw [if_neg h1] at h; cases h
end Go.Proofs.YtkdndabpaajkaaaGreatDoor.U8
namespace Go.Proofs.YtkdndabpaajkaaaGreatDoor.U8
open Go.RowKit Go.Proofs.YtkdndabpaajkaaaGreatDoor.A Go.Proofs.YtkdndabpaajkaaaGreatDoorW.PrintWords Go.Proofs.YtkdndabpaajkaaaGreatDoorW.PrintLast Go.Lib
set_option linter.unusedVariables false
set_option linter.unusedSimpArgs false
def fewA (l : List Att) : Bool := fewS (fun x => decide (x.f0.size ≤ 200) && decide (x.f1.f2.size ≤ 500)) 0 l
theorem fewA_ev (l : List Att) : Evn (fun k => caduceuslaw04_FewAttrs.f k l) (fewA l) := by
  refine Evn.loopS (g := fun k i => caduceuslaw04_FewAttrs.l0 k l i) l (fun _ => True) (fun pre post => fewS (fun x => decide (x.f0.size ≤ 200) && decide (x.f1.f2.size ≤ 500)) pre.length post) ?_ ?_ l [] rfl trivial
  · intro _ hn
    exact Evn.step (fun k => caduceuslaw04_FewAttrs.l0.eq_2 ..) (Evn.neg hn (Evn.ret _))
  · intro pre x post e _ hlt h0 hw hget hmem ih
    have hrd : rd_T76 l (pre.length : Int) = x := hget _
    refine Evn.step (fun k => caduceuslaw04_FewAttrs.l0.eq_2 ..) (Evn.pos hlt ?_)
    rw [hrd, fewS]
    by_cases h1 : pre.length ≤ 40
    · rw [if_pos h1, hw (by omega)]
      refine Evn.neg (by omega) (Evn.pos h0 ?_)
      by_cases h2 : x.f0.size ≤ 200
      · refine Evn.neg (by omega) ?_
        by_cases h3 : x.f1.f2.size ≤ 500
        · rw [if_pos (by rw [decide_eq_true h2, decide_eq_true h3]; rfl)]
          refine Evn.neg (by omega) ?_
          exact Evn.val (by rw [snocLen]) (ih trivial)
        · rw [if_neg (by rw [decide_eq_false h3, Bool.and_false]; decide)]
          exact Evn.pos (by omega) (Evn.ret _)
      · rw [if_neg (by rw [decide_eq_false h2, Bool.false_and]; decide)]
        exact Evn.pos (by omega) (Evn.ret _)
    · rw [if_neg h1]
      exact Evn.pos (by omega) (Evn.ret _)
theorem fewA_true (l : List Att) (h : fewA l = true) : l.length ≤ 41 ∧ ∀ x ∈ l, x.f0.size ≤ 200 ∧ x.f1.f2.size ≤ 500 := by
  obtain ⟨h1, h2⟩ := fewS_true _ l 0 h
  refine ⟨?_, fun x hx => ?_⟩
  · rcases h1 with rfl | h1
    · exact Nat.zero_le _
    · omega
  · have := h2 x hx
    rw [Bool.and_eq_true, decide_eq_true_eq, decide_eq_true_eq] at this
    exact this
end Go.Proofs.YtkdndabpaajkaaaGreatDoor.U8
namespace Go.Proofs.YtkdndabpaajkaaaGreatDoor.U8
open Go.RowKit Go.Proofs.YtkdndabpaajkaaaGreatDoor.A Go.Proofs.YtkdndabpaajkaaaGreatDoorW.PrintWords Go.Proofs.YtkdndabpaajkaaaGreatDoorW.PrintLast Go.Lib
set_option linter.unusedVariables false
set_option linter.unusedSimpArgs false
abbrev bl (l : List UInt8) : ByteArray := ⟨l.toArray⟩
theorem bl_list (l : List UInt8) : (bl l).data.toList = l := rfl
theorem bl_size (l : List UInt8) : (bl l).size = l.length := rfl
theorem bl_toList (l : List UInt8) : (bl l).toList = l := ByteArray.toList_eq _
theorem bl_ext {a b : ByteArray} (h : a.data.toList = b.data.toList) : a = b := ByteArray.ext (Array.ext' h)
theorem bl_eta (s : ByteArray) : bl s.data.toList = s := bl_ext rfl
theorem bl_eta2 (s : ByteArray) : s.toList = s.data.toList := ByteArray.toList_eq _
theorem bl_app (a b : List UInt8) : bl a ++ bl b = bl (a ++ b) := bl_ext (by rw [ByteArray.data_append, Array.toList_append])
theorem bl_appl (a : List UInt8) (s : ByteArray) : bl a ++ s = bl (a ++ s.data.toList) := bl_ext (by rw [ByteArray.data_append, Array.toList_append])
end Go.Proofs.YtkdndabpaajkaaaGreatDoor.U8
namespace Go.Proofs.YtkdndabpaajkaaaGreatDoor.U8
open Go.RowKit Go.Proofs.YtkdndabpaajkaaaGreatDoor.A Go.Proofs.YtkdndabpaajkaaaGreatDoorW.PrintWords Go.Proofs.YtkdndabpaajkaaaGreatDoorW.PrintLast Go.Lib
set_option linter.unusedVariables false
set_option linter.unusedSimpArgs false
theorem pre1 (c d : UInt8) (t : List UInt8) (h : d ≠ c) : (List.isPrefixOf [c] (d :: t)) = false := by
  simp only [List.isPrefixOf, Bool.and_eq_false_iff, beq_eq_false_iff_ne]
  exact .inl (fun e => h e.symm)
theorem idx_no (c : UInt8) : ∀ t : List UInt8, c ∉ t → Lib.index t [c] = -1
  | [], _ => rfl
  | d :: t, h => by
    have hd : d ≠ c := fun e => h (e ▸ List.mem_cons_self)
    rw [Lib.index, pre1 c d t hd, if_neg (by decide), idx_no c t (fun e => h (List.mem_cons_of_mem _ e)), if_pos (by decide)]
theorem idx_at (c : UInt8) (r : List UInt8) : ∀ t : List UInt8, c ∉ t → Lib.index (t ++ c :: r) [c] = (t.length : Int)
  | [], _ => by
    rw [List.nil_append, Lib.index, if_pos (by simp)]; rfl
  | d :: t, h => by
    have hd : d ≠ c := fun e => h (e ▸ List.mem_cons_self)
    rw [List.cons_append, Lib.index, pre1 c d _ hd, if_neg (by decide), idx_at c r t (fun e => h (List.mem_cons_of_mem _ e)), if_neg (by rw [beq_iff_eq]; omega), List.length_cons]; omega
theorem drop_mid (c : UInt8) (t r : List UInt8) : (t ++ c :: r).drop (t.length + 1) = r := by
  have e : t ++ c :: r = (t ++ [c]) ++ r := by rw [List.append_assoc]; rfl
  have l : (t ++ [c]).length = t.length + 1 := by rw [List.length_append]; rfl
  rw [e, ← l, List.drop_left]
theorem cut_no (c : UInt8) (t : List UInt8) (h : c ∉ t) : Lib.cut t [c] = (t, [], false) := by
  unfold Lib.cut; rw [idx_no c t h, if_neg (by decide)]
theorem cut_at (c : UInt8) (t r : List UInt8) (h : c ∉ t) : Lib.cut (t ++ c :: r) [c] = (t, r, true) := by
  unfold Lib.cut
  rw [idx_at c r t h, if_pos (by omega), Int.toNat_natCast, List.take_left' rfl]
  show (t, (t ++ c :: r).drop (t.length + 1), true) = _
  rw [drop_mid]
theorem first_c (c : UInt8) : ∀ t : List UInt8, c ∉ t ∨ ∃ a b, t = a ++ c :: b ∧ c ∉ a
  | [] => .inl (fun h => by cases h)
  | d :: t => by
    by_cases h : d = c
    · subst h; exact .inr ⟨[], t, rfl, fun h => by cases h⟩
    · rcases first_c c t with k | ⟨a, b, e, k⟩
      · refine .inl (fun hh => ?_)
        rcases List.mem_cons.1 hh with hh | hh
        · exact h hh.symm
        · exact k hh
      · refine .inr ⟨d :: a, b, by rw [e]; rfl, fun hh => ?_⟩
        rcases List.mem_cons.1 hh with hh | hh
        · exact h hh.symm
        · exact k hh
theorem cutq (c : UInt8) (s : List UInt8) (h : s.length < 1000000) : strings_Cut.f (bl s) (bl [c]) = some (bl (Lib.cut s [c]).1, bl (Lib.cut s [c]).2.1, (Lib.cut s [c]).2.2) := by
  unfold strings_Cut.f
  rw [if_pos (by rw [bl_size]; omega)]
  try rfl
theorem cutq_no (c : UInt8) (s : List UInt8) (h : s.length < 1000000) (hc : c ∉ s) : strings_Cut.f (bl s) (bl [c]) = some (bl s, bl [], false) := by
  rw [cutq c s h, cut_no c s hc]
theorem cutq_at (c : UInt8) (a b : List UInt8) (h : (a ++ c :: b).length < 1000000) (hc : c ∉ a) : strings_Cut.f (bl (a ++ c :: b)) (bl [c]) = some (bl a, bl b, true) := by
  rw [cutq c _ h, cut_at c a b hc]
end Go.Proofs.YtkdndabpaajkaaaGreatDoor.U8
namespace Go.Proofs.YtkdndabpaajkaaaGreatDoor.U8
open Go.RowKit Go.Proofs.YtkdndabpaajkaaaGreatDoor.A Go.Proofs.YtkdndabpaajkaaaGreatDoorW.PrintWords Go.Proofs.YtkdndabpaajkaaaGreatDoorW.PrintLast Go.Lib
set_option linter.unusedVariables false
set_option linter.unusedSimpArgs false
theorem decGo (s : ByteArray) (h : s.size ≠ 0) : Lib.decodeGo s = decodeL s.data.toList := by
  unfold Lib.decodeGo decodeL
  rw [if_neg h]
def wordB (c : Int) : Bool := letB c || (c == 95 || (c == 45 || (decide (48 ≤ c) && decide (c ≤ 57))))
def goesB (l : List UInt8) : Bool := if (dec l).2 = 0 then false else wordB (dec l).1
theorem word_if (c : Int) : (if letB c = true then some true else (if c = 95 then some true else (if c = 45 then some true else (if c ≥ 48 then some (decide (c ≤ 57)) else some false)))) = some (wordB c) := by
  unfold wordB
  by_cases h1 : letB c = true
  · simp [h1]
  by_cases h2 : c = 95
  · simp [h2]
  by_cases h3 : c = 45
  · simp [h3]
  by_cases h4 : c ≥ 48
  · have : decide (48 ≤ c) = true := decide_eq_true h4
    have b2 : (c == 95) = false := beq_eq_false_iff_ne.mpr h2
    have b3 : (c == 45) = false := beq_eq_false_iff_ne.mpr h3
    simp [h1, h2, h3, h4, this, b2, b3]
  · have : decide (48 ≤ c) = false := decide_eq_false h4
    have b2 : (c == 95) = false := beq_eq_false_iff_ne.mpr h2
    have b3 : (c == 45) = false := beq_eq_false_iff_ne.mpr h3
    simp [h1, h2, h3, h4, this, b2, b3]
theorem goes_q (s : ByteArray) (k : Nat) : value_goesOn.f (k + 1) s = some (goesB s.data.toList) := by
  unfold value_goesOn.f utf8_DecodeRuneInString.f goesB
  simp only [Option.bind_some, letter_q, word_if]
  by_cases hz : s.size = 0
  · have e : Lib.decodeGo s = (65533, 0) := by unfold Lib.decodeGo; rw [if_pos hz]
    have e2 : s.data.toList = [] := List.eq_nil_of_length_eq_zero (by rw [data_length]; exact hz)
    rw [e, e2]; rfl
  · rw [decGo s hz]
    have hne : s.data.toList ≠ [] := by intro h; rw [← ByteArray.toList_eq] at h; exact hz ((toList_nil s).1 h)
    have e := dec_decodeL s.data.toList hne
    have hw := decodeL_width s.data.toList
    by_cases hb : decodeL s.data.toList = (65533, 1)
    · rw [if_pos hb] at e
      rw [hb, e]; rfl
    · rw [if_neg hb] at e
      rw [e, if_pos (by omega), if_neg (by omega)]
def preB (s p : ByteArray) : Bool := if p.size ≤ s.size then (s.extract 0 p.size).toList == p.toList else false
theorem pre_q (s p : ByteArray) : strings_HasPrefix.f s p = some (preB s p) := by
  unfold strings_HasPrefix.f stringslite_HasPrefix.f preB
  by_cases h : p.size ≤ s.size
  · simp only [show (s.size : Int) ≥ (p.size : Int) by omega, show (0 : Int) ≤ (p.size : Int) by omega, show (p.size : Int) ≤ (s.size : Int) by omega, h, if_true, Int.toNat_natCast, Option.bind_some]
  · simp only [show ¬ (s.size : Int) ≥ (p.size : Int) by omega, h, if_false, Option.bind_some]
theorem pre_l (s p : ByteArray) : stringslite_HasPrefix.f s p = some (preB s p) := by
  have := pre_q s p
  unfold strings_HasPrefix.f at this
  cases h : stringslite_HasPrefix.f s p with
  | none => rw [h] at this; cases this
  | some x => rw [h] at this; exact this
theorem pre_size {s p : ByteArray} (h : preB s p = true) : p.size ≤ s.size := by
  unfold preB at h
  by_cases c : p.size ≤ s.size
  · exact c
  · rw [if_neg c] at h; cases h
theorem pre_byte {s p : ByteArray} (h : preB s p = true) (hp : p.size ≠ 0) : byt s.data.toList 0 = byt p.data.toList 0 := by
  have hs := pre_size h
  unfold preB at h
  rw [if_pos hs, beq_iff_eq, ByteArray.toList_eq, ByteArray.toList_eq, ByteArray.data_extract, Array.toList_extract] at h
  have e : (s.data.toList.extract 0 p.size) = s.data.toList.take p.size := by simp [List.extract]
  rw [e] at h
  rw [← h]
  unfold byt
  cases hl : s.data.toList with
  | nil => simp
  | cons b t =>
    obtain ⟨n, hn⟩ : ∃ n, p.size = n + 1 := ⟨p.size - 1, by omega⟩
    rw [hn]; rfl
theorem cut_q (s p : ByteArray) : strings_CutPrefix.f s p = some (if preB s p = true then (s.extract p.size s.size, true) else (s, false)) := by
  unfold strings_CutPrefix.f stringslite_CutPrefix.f
  rw [pre_l]
  simp only [Option.bind_some]
  by_cases h : preB s p = true
  · have hs := pre_size h
    rw [if_pos h, if_pos h, if_pos (by omega), if_pos (by omega)]; rfl
  · rw [if_neg h, if_neg h]; rfl
def wTrue : ByteArray := ⟨#[116, 114, 117, 101]⟩
def wFalse : ByteArray := ⟨#[102, 97, 108, 115, 101]⟩
def boolS (s : ByteArray) : Int × Int × ByteArray × ByteArray × Int :=
  if preB s wTrue = true ∧ goesB (s.data.toList.drop 4) = false then (3, 1, ⟨#[]⟩, s.extract 4 s.size, 0)
  else if preB s wFalse = true ∧ goesB (s.data.toList.drop 5) = false then (3, 0, ⟨#[]⟩, s.extract 5 s.size, 0)
  else (0, 0, ⟨#[]⟩, ⟨#[]⟩, 3)
theorem bool_q (s : ByteArray) (k : Nat) : value_boolean.f (k + 4) s = some (boolS s) := by
  have w1 : wrap64 (0 + 1) = 1 := by unfold wrap64; omega
  have w2 : wrap64 (1 + 1) = 2 := by unfold wrap64; omega
  have l2 : (([(⟨#[102, 97, 108, 115, 101]⟩ : ByteArray), (⟨#[116, 114, 117, 101]⟩ : ByteArray)] : List ByteArray).length : Int) = 2 := rfl
  have r0 : rdOf ByteArray.empty [(⟨#[102, 97, 108, 115, 101]⟩ : ByteArray), (⟨#[116, 114, 117, 101]⟩ : ByteArray)] 0 = wFalse := rfl
  have r1 : rdOf ByteArray.empty [(⟨#[102, 97, 108, 115, 101]⟩ : ByteArray), (⟨#[116, 114, 117, 101]⟩ : ByteArray)] 1 = wTrue := rfl
  have z4 : wTrue.size = 4 := rfl
  have z5 : wFalse.size = 5 := rfl
  have end_ : ∀ l, value_boolean.l0 (k + 2) s l 2 2 = some (0, 0, ⟨#[]⟩, ⟨#[]⟩, 3) := fun l => by rw [value_boolean.l0, if_neg (by omega)]
  have two : value_boolean.l0 (k + 3) s [(⟨#[102, 97, 108, 115, 101]⟩ : ByteArray), (⟨#[116, 114, 117, 101]⟩ : ByteArray)] 2 1 = some (if preB s wTrue = true ∧ goesB (s.data.toList.drop 4) = false then (3, 1, ⟨#[]⟩, s.extract 4 s.size, 0) else (0, 0, ⟨#[]⟩, ⟨#[]⟩, 3)) := by
    rw [value_boolean.l0, l2, if_pos (by omega), if_pos (by omega), if_pos (by omega), r1, cut_q]
    simp only [Option.bind_some]
    by_cases h : preB s wTrue = true
    · simp only [h, if_true, true_and, z4]
      rw [show k + 2 = k + 1 + 1 by omega, goes_q, extract_toList]
      simp only [Option.bind_some]
      by_cases g : goesB (s.data.toList.drop 4) = true
      · rw [if_pos g, w2, end_, if_neg (by simp [g])]
      · rw [if_neg g, if_pos (by simpa using g)]
    · simp only [h, if_false, false_and, Bool.false_eq_true]
      rw [w2, end_]
  unfold value_boolean.f boolS
  simp only [Option.bind_some]
  rw [value_boolean.l0, l2, if_pos (by omega), if_pos (by omega), if_pos (by omega), r0, cut_q]
  simp only [Option.bind_some]
  by_cases h : preB s wFalse = true
  · have hn : ¬ preB s wTrue = true := fun h2 => by
      have e1 := pre_byte h (by decide)
      have e2 := pre_byte h2 (by decide)
      rw [e1] at e2
      exact absurd e2 (by decide)
    simp only [h, if_true, true_and, z5, hn, if_false, false_and]
    rw [show k + 3 = k + 2 + 1 by omega, goes_q, extract_toList]
    simp only [Option.bind_some]
    by_cases g : goesB (s.data.toList.drop 5) = true
    · rw [if_pos g, w1, two]
      simp [hn, g]
    · have g' : goesB (s.data.toList.drop 5) = false := by simpa using g
      rw [if_neg g]
      simp [g']
  · simp only [h, if_false, false_and, Bool.false_eq_true]
    rw [w1, two]
end Go.Proofs.YtkdndabpaajkaaaGreatDoor.U8
namespace Go.Proofs.YtkdndabpaajkaaaGreatDoor.U8
open Go.RowKit Go.Proofs.YtkdndabpaajkaaaGreatDoor.A Go.Proofs.YtkdndabpaajkaaaGreatDoorW.PrintWords Go.Proofs.YtkdndabpaajkaaaGreatDoorW.PrintLast Go.Lib
set_option linter.unusedVariables false
set_option linter.unusedSimpArgs false
theorem baext {a b : ByteArray} (h : a.data.toList = b.data.toList) : a = b := by
  obtain ⟨⟨a⟩⟩ := a
  obtain ⟨⟨b⟩⟩ := b
  simp only at h
  rw [h]
theorem drop_at (l : List UInt8) (i : Nat) (h : i < l.length) : ∃ b, l.drop i = b :: l.drop (i + 1) ∧ byt l i = b.toNat := by
  refine ⟨l[i], List.drop_eq_getElem_cons h, ?_⟩
  unfold byt
  rw [List.getD_eq_getElem?_getD, List.getElem?_eq_getElem h]; rfl
theorem drop_byt (s : ByteArray) (i : Nat) (h : i < s.size) : ∃ b : UInt8, s.data.toList.drop i = b :: s.data.toList.drop (i + 1) ∧ byt s.data.toList i = b.toNat := drop_at _ i (by rw [← size_len]; exact h)
theorem byt_cons (s : ByteArray) (b : UInt8) (l : List UInt8) (h : s.data.toList = b :: l) : byt s.data.toList 0 = b.toNat ∧ s.size ≠ 0 := by
  refine ⟨by rw [h]; rfl, ?_⟩
  rw [size_len, h, List.length_cons]; omega
theorem ba_nil (s : ByteArray) (h : s.size = 0) : s = ⟨#[]⟩ := baext (List.eq_nil_of_length_eq_zero (by rw [← size_len]; exact h))
theorem ext_part (s : ByteArray) (i n : Nat) (h : i + n ≤ s.size) : (s.extract i (i + n)).data.toList = (s.data.toList.drop i).take n := by
  rw [ByteArray.data_extract, Array.toList_extract]
  simp [List.extract_eq_take_drop]
end Go.Proofs.YtkdndabpaajkaaaGreatDoor.U8
namespace Go.Proofs.YtkdndabpaajkaaaGreatDoor.U8
open Go.RowKit Go.Proofs.YtkdndabpaajkaaaGreatDoor.A Go.Proofs.YtkdndabpaajkaaaGreatDoorW.PrintWords Go.Proofs.YtkdndabpaajkaaaGreatDoorW.PrintLast Go.Lib
set_option linter.unusedVariables false
set_option linter.unusedSimpArgs false
def dg : List UInt8 → Nat
  | [] => 0
  | b :: l => if 48 ≤ b.toNat ∧ b.toNat ≤ 57 then dg l + 1 else 0
@[irreducible] def dv (a : Nat) (b : UInt8) : Nat := a * 10 + (b.toNat - 48)
theorem dv_eq (a : Nat) (b : UInt8) : dv a b = a * 10 + (b.toNat - 48) := by unfold dv; rfl
def nv (a : Nat) : List UInt8 → Nat
  | [] => a
  | b :: l => nv (dv a b) l
theorem dg_le : ∀ l, dg l ≤ l.length
  | [] => Nat.le_refl _
  | b :: l => by
    unfold dg
    have := dg_le l
    split
    · simp only [List.length_cons]; omega
    · omega
theorem nv_cons (a : Nat) (b : UInt8) (l : List UInt8) : nv a (b :: l) = nv (dv a b) l := rfl
theorem decF_cons (a : Nat) (b : UInt8) (l : List UInt8) (h : 48 ≤ b.toNat ∧ b.toNat ≤ 57) : decFrom a (b :: l) = decFrom (a * 10 + (b.toNat - 48)) l := by
  simp only [decFrom, digitVal, if_pos h]
theorem dg_pos (b : UInt8) (l : List UInt8) (h : 48 ≤ b.toNat ∧ b.toNat ≤ 57) : dg (b :: l) = dg l + 1 := by
  simp only [dg, if_pos h]
theorem dg_neg (b : UInt8) (l : List UInt8) (h : ¬ (48 ≤ b.toNat ∧ b.toNat ≤ 57)) : dg (b :: l) = 0 := by
  simp only [dg, if_neg h]
theorem dec_nv : ∀ (l : List UInt8) (a : Nat), decFrom a (l.take (dg l)) = some (nv a (l.take (dg l)))
  | [], a => rfl
  | b :: l, a => by
    by_cases h : 48 ≤ b.toNat ∧ b.toNat ≤ 57
    · rw [dg_pos b l h, List.take_succ_cons, decF_cons _ _ _ h, nv_cons, dv_eq]
      exact dec_nv l _
    · rw [dg_neg b l h]; rfl
theorem btq (s : ByteArray) (i : Nat) : bt s (i : Int) = (byt s.data.toList i : Int) := by
  have := bt_byt s (i : Int)
  rwa [Int.toNat_natCast] at this
theorem digits_l0 (s : ByteArray) (hs : s.size < 1000000) (k : Nat) : ∀ (m i : Nat), i ≤ s.size → s.size - i ≤ m → value_digits.l0 (k + m + 1) s (i : Int) = some ((i + dg (s.data.toList.drop i) : Nat) : Int)
  | m, i, h1, h2 => by
    have hl : s.data.toList.length = s.size := data_length s
    by_cases hi : i = s.size
    · rw [List.drop_of_length_le (by omega), value_digits.l0, if_neg (by omega)]; rfl
    · obtain ⟨m, rfl⟩ : ∃ q, m = q + 1 := ⟨m - 1, by omega⟩
      obtain ⟨b, hd, hb⟩ := drop_at s.data.toList i (by omega)
      have hlt := byt_lt s.data.toList i
      rw [value_digits.l0, if_pos (by omega), if_pos (by omega), btq, hd]
      unfold dg
      rw [← hb]
      by_cases h : 48 ≤ byt s.data.toList i ∧ byt s.data.toList i ≤ 57
      · rw [if_pos (by omega), if_pos (by omega), if_pos h, w64 (by omega) (by omega), show (i : Int) + 1 = ((i + 1 : Nat) : Int) by omega, show k + (m + 1) = k + m + 1 by omega, digits_l0 s hs k m (i + 1) (by omega) (by omega)]
        exact congrArg some (by omega)
      · rw [if_neg h]
        by_cases h3 : 48 ≤ byt s.data.toList i
        · rw [if_pos (by omega), if_neg (by omega)]; rfl
        · rw [if_neg (by omega)]; rfl
def intR (s : ByteArray) (at_ cnt n : Nat) : Int × Int × ByteArray × ByteArray × Int :=
  if cnt = 0 then (0, 0, ⟨#[]⟩, ⟨#[]⟩, 3)
  else if byt s.data.toList at_ = 48 ∧ (1 < cnt ∨ at_ = 1) then (0, 0, ⟨#[]⟩, ⟨#[]⟩, 3)
  else if 16 < cnt ∨ 9007199254740991 < n then (0, 0, ⟨#[]⟩, ⟨#[]⟩, 2)
  else (1, if at_ = 1 then -(n : Int) else (n : Int), ⟨#[]⟩, s.extract (at_ + cnt) s.size, 0)
def sg (s : ByteArray) : Nat := if byt s.data.toList 0 = 45 then 1 else 0
theorem pre_one (s : ByteArray) (hz : s.size ≠ 0) (c : UInt8) : preB s ⟨#[c]⟩ = true ↔ byt s.data.toList 0 = c.toNat := by
  unfold preB
  have z : (⟨#[c]⟩ : ByteArray).size = 1 := rfl
  rw [z, if_pos (by omega), beq_iff_eq, ByteArray.toList_eq, ByteArray.toList_eq, ByteArray.data_extract, Array.toList_extract]
  have e : (s.data.toList.extract 0 1) = s.data.toList.take 1 := by simp [List.extract]
  rw [e]
  have hl : s.data.toList.length = s.size := data_length s
  obtain ⟨b, hd, hb⟩ := drop_at s.data.toList 0 (by omega)
  rw [List.drop_zero] at hd
  rw [hb]
  rw [hd]
  show [b] = [c] ↔ _
  constructor
  · intro h; rw [List.cons.inj h |>.1]
  · intro h; rw [UInt8.toNat_inj.1 h]
theorem trim_q (s : ByteArray) (hz : s.size ≠ 0) : strings_TrimPrefix.f s (⟨#[45]⟩ : ByteArray) = some (s.extract (sg s) s.size) := by
  unfold strings_TrimPrefix.f stringslite_TrimPrefix.f sg
  rw [pre_l]
  have z : (⟨#[45]⟩ : ByteArray).size = 1 := rfl
  have hp := pre_one s hz 45
  simp only [Option.bind_some, z]
  by_cases h : byt s.data.toList 0 = 45
  · rw [if_pos (hp.2 h), if_pos (by omega), if_pos (by omega), if_pos h]; rfl
  · rw [if_neg (fun x => h (hp.1 x)), if_neg h]
    have : s.extract 0 s.size = s := ByteArray.extract_zero_size
    rw [this]; rfl
theorem atoi_at (s : ByteArray) (c : Nat) (hc : c = dg (s.data.toList.drop (sg s))) (h1 : 1 ≤ c) (h16 : c ≤ 16) :
    strconv_Atoi.f (s.extract 0 (sg s + c)) = some ((if sg s = 1 then -((nv 0 ((s.data.toList.drop (sg s)).take c) : Nat) : Int) else ((nv 0 ((s.data.toList.drop (sg s)).take c) : Nat) : Int)), none) := by
  have hl : s.data.toList.length = s.size := data_length s
  have hd := dg_le (s.data.toList.drop (sg s))
  rw [← hc, List.length_drop] at hd
  have hsg : sg s ≤ 1 := by unfold sg; split <;> omega
  have hsz : (s.extract 0 (sg s + c)).size = sg s + c := by rw [ByteArray.size_extract]; omega
  have hto : (s.extract 0 (sg s + c)).data.toList = s.data.toList.take (sg s + c) := by
    rw [ByteArray.data_extract, Array.toList_extract]; simp [List.extract]
  unfold strconv_Atoi.f
  rw [if_pos (by omega), hto]
  have dn : ∀ r : List UInt8, r = (s.data.toList.drop (sg s)).take c → decNat r = some (nv 0 ((s.data.toList.drop (sg s)).take c)) := by
    intro r hr
    subst hr
    unfold decNat
    rw [if_neg (by
      intro h
      rw [List.isEmpty_iff] at h
      have := congrArg List.length h
      rw [List.length_take, List.length_drop, List.length_nil] at this
      omega)]
    have := dec_nv (s.data.toList.drop (sg s)) 0
    rw [← hc] at this
    exact this
  by_cases h : byt s.data.toList 0 = 45
  · have e1 : sg s = 1 := by unfold sg; rw [if_pos h]
    obtain ⟨b, hb, hb2⟩ := drop_at s.data.toList 0 (by omega)
    rw [List.drop_zero] at hb
    have e : s.data.toList.take (sg s + c) = b :: (s.data.toList.drop (sg s)).take c := by
      rw [e1, Nat.add_comm, hb, List.take_succ_cons]; rfl
    have hb45 : (b == 45) = true := by rw [beq_iff_eq, ← UInt8.toNat_inj, ← hb2, h]; rfl
    rw [e]
    unfold atoi
    simp only [hb45, if_true]
    rw [dn _ rfl, if_pos e1]; rfl
  · have e1 : sg s = 0 := by unfold sg; rw [if_neg h]
    have e : s.data.toList.take (sg s + c) = (s.data.toList.drop (sg s)).take c := by rw [e1, Nat.zero_add, List.drop_zero]
    obtain ⟨b, hb, hb2⟩ := drop_at s.data.toList 0 (by omega)
    rw [List.drop_zero] at hb
    rw [e]
    have dn' := dn _ rfl
    have hdig : 48 ≤ b.toNat ∧ b.toNat ≤ 57 := by
      rw [e1, List.drop_zero, hb] at hc
      by_cases hh : 48 ≤ b.toNat ∧ b.toNat ≤ 57
      · exact hh
      · rw [dg_neg b _ hh] at hc; omega
    obtain ⟨c', rfl⟩ : ∃ q, c = q + 1 := ⟨c - 1, by omega⟩
    have e2 : (s.data.toList.drop (sg s)).take (c' + 1) = b :: (s.data.toList.drop 1).take c' := by
      rw [e1, List.drop_zero]
      conv => lhs; rw [hb]
      rw [List.take_succ_cons]
    rw [e2] at dn' ⊢
    have hb45 : (b == 45) = false := by rw [beq_eq_false_iff_ne]; intro hx; rw [hx] at hdig; exact absurd hdig.1 (by decide)
    have hb43 : (b == 43) = false := by rw [beq_eq_false_iff_ne]; intro hx; rw [hx] at hdig; exact absurd hdig.1 (by decide)
    unfold atoi
    simp only [hb45, hb43, Bool.false_eq_true, if_false]
    rw [dn', if_neg (by omega)]; rfl
theorem int_q (s : ByteArray) (hs : s.size < 1000000) (hz : s.size ≠ 0) (k nF : Nat) (hn : dg (s.data.toList.drop (sg s)) ≤ 16 → nF = nv 0 ((s.data.toList.drop (sg s)).take (dg (s.data.toList.drop (sg s))))) :
    value_integer.f (k + s.size + 2) s = some (intR s (sg s) (dg (s.data.toList.drop (sg s))) nF) := by
  have hl : s.data.toList.length = s.size := data_length s
  have hsg : sg s ≤ 1 := by unfold sg; split <;> omega
  have hd := dg_le (s.data.toList.drop (sg s))
  rw [List.length_drop] at hd
  have htl : (s.extract (sg s) s.size).data.toList = s.data.toList.drop (sg s) := extract_toList s (sg s)
  have hts : (s.extract (sg s) s.size).size = s.size - sg s := by rw [ByteArray.size_extract]; omega
  unfold value_integer.f
  rw [trim_q s hz]
  simp only [Option.bind_some]
  have dl := digits_l0 (s.extract (sg s) s.size) (by omega) (k + sg s + 1) (s.size - sg s) 0 (by omega) (by omega)
  rw [List.drop_zero, htl, show k + sg s + 1 + (s.size - sg s) + 1 = k + s.size + 2 by omega, Nat.zero_add] at dl
  unfold value_digits.f
  rw [show ((0 : Nat) : Int) = 0 from rfl] at dl
  rw [dl]
  simp only [Option.bind_some]
  rw [hts, w64 (x := (s.size : Int) - ((s.size - sg s : Nat) : Int)) (by omega) (by omega), w64 (by omega) (by omega)]
  have b0 : bt (s.extract (sg s) s.size) 0 = byt s.data.toList (sg s) := by
    have := bt_byt (s.extract (sg s) s.size) 0
    rw [this, htl]
    show ((byt (s.data.toList.drop (sg s)) 0 : Nat) : Int) = _
    unfold byt
    rw [List.getD_eq_getElem?_getD, List.getD_eq_getElem?_getD, List.getElem?_drop]; rfl
  rw [b0]
  generalize hc : dg (s.data.toList.drop (sg s)) = c at *
  rw [show ((s.size : Int) - ((s.size - sg s : Nat) : Int) + (c : Int)) = ((sg s + c : Nat) : Int) by omega]
  have tr : value_integer.j0 (k + s.size + 2) s (c : Int) ((sg s + c : Nat) : Int) true = some (0, 0, ⟨#[]⟩, ⟨#[]⟩, 3) := by
    rw [value_integer.j0, if_pos rfl]
  have fl : ∀ b : Bool, b = false → 1 ≤ c → value_integer.j0 (k + s.size + 2) s (c : Int) ((sg s + c : Nat) : Int) b = some (if 16 < c ∨ 9007199254740991 < nF then (0, 0, ⟨#[]⟩, ⟨#[]⟩, 2) else (1, if sg s = 1 then -(nF : Int) else (nF : Int), ⟨#[]⟩, s.extract (sg s + c) s.size, 0)) := by
    intro b hb h1
    subst hb
    rw [value_integer.j0]
    simp only [Bool.false_eq_true, if_false]
    by_cases h2 : 16 < c
    · rw [if_pos (by omega), if_pos (.inl h2)]
    rw [if_neg (by omega), if_pos (by omega), if_pos (by omega), Int.toNat_natCast, atoi_at s c hc.symm h1 (by omega)]
    rw [← hn (by omega)]
    simp only [Option.bind_some]
    by_cases h3 : sg s = 1
    · simp only [h3, if_true]
      by_cases h4 : 9007199254740991 < nF
      · rw [if_neg (by omega), if_pos (by omega), if_pos (.inr h4)]
      · rw [if_neg (by omega), if_neg (by omega), if_neg (by omega)]
    · simp only [h3, if_false]
      by_cases h4 : 9007199254740991 < nF
      · rw [if_pos (by omega), if_pos (.inr h4)]
      · rw [if_neg (by omega), if_neg (by omega), if_neg (by omega)]
  unfold intR
  by_cases h0 : c = 0
  · rw [if_pos (by omega), tr, if_pos h0]
  rw [if_neg (by omega), if_neg h0, if_pos (by omega)]
  by_cases h1 : byt s.data.toList (sg s) = 48
  · rw [if_pos (by omega)]
    by_cases h2 : 1 < c
    · rw [if_pos (by omega), tr, if_pos ⟨h1, .inl h2⟩]
    · rw [if_neg (by omega)]
      by_cases h3 : sg s = 1
      · rw [show decide (((s.size - sg s : Nat) : Int) < (s.size : Int)) = true from decide_eq_true (by omega), tr, if_pos ⟨h1, .inr h3⟩]
      · rw [fl _ (decide_eq_false (by omega)) (by omega), if_neg (show ¬ (byt s.data.toList (sg s) = 48 ∧ (1 < c ∨ sg s = 1)) by omega)]
  · rw [if_neg (by omega), fl _ rfl (by omega), if_neg (show ¬ (byt s.data.toList (sg s) = 48 ∧ (1 < c ∨ sg s = 1)) from fun z => h1 z.1)]
end Go.Proofs.YtkdndabpaajkaaaGreatDoor.U8
namespace Go.Proofs.YtkdndabpaajkaaaGreatDoor.U8
open Go.RowKit Go.Proofs.YtkdndabpaajkaaaGreatDoor.A Go.Proofs.YtkdndabpaajkaaaGreatDoorW.PrintWords Go.Proofs.YtkdndabpaajkaaaGreatDoorW.PrintLast Go.Lib
set_option linter.unusedVariables false
set_option linter.unusedSimpArgs false
def hexV (c : Nat) : Int := if 48 ≤ c ∧ c ≤ 57 then (c : Int) - 48 else if 97 ≤ c ∧ c ≤ 102 then (c : Int) - 87 else -1
theorem hexV_lt (c : Nat) : -1 ≤ hexV c ∧ hexV c < 16 := by
  unfold hexV
  repeat' split
  all_goals omega
theorem digit_q (c : Nat) (h : c < 256) : value_digit.f (c : Int) = some (hexV c) := by
  have all : ∀ n : Fin 256, value_digit.f ((n.val : Nat) : Int) = some (hexV n.val) := by decide +kernel
  exact all ⟨c, h⟩
theorem or16 (a b : Int) (ha : 0 ≤ a ∧ a < 16) (hb : 0 ≤ b ∧ b < 16) : Go.bits .or .i64 (wrap64 (a * 16)) b = 16 * a + b := by
  have all : ∀ x y : Fin 16, Go.bits .or .i64 (((x.val : Nat) : Int) * 16) ((y.val : Nat) : Int) = 16 * ((x.val : Nat) : Int) + ((y.val : Nat) : Int) := by decide +kernel
  have := all ⟨a.toNat, by omega⟩ ⟨b.toNat, by omega⟩
  simp only at this
  rw [Int.toNat_of_nonneg ha.1, Int.toNat_of_nonneg hb.1] at this
  rw [w64 (by omega) (by omega), this]
theorem ext_ext (s : ByteArray) (i j : Nat) : (s.extract i s.size).extract j (s.extract i s.size).size = s.extract (i + j) s.size := by
  apply baext
  rw [extract_toList, extract_toList, extract_toList, List.drop_drop]
theorem bt_ext (s : ByteArray) (i j : Nat) : bt (s.extract i s.size) (j : Int) = (byt s.data.toList (i + j) : Int) := by
  rw [btq, extract_toList, byt_drop]
theorem wa1 (i : Nat) (h : i < 1000000) : wrap64 ((i : Int) + 1) = ((i + 1 : Nat) : Int) := by rw [w64 (by omega) (by omega)]; omega
theorem bt_ext0 (s : ByteArray) (i : Nat) : bt (s.extract i s.size) 0 = (byt s.data.toList i : Int) := bt_ext s i 0
theorem bt_ext1 (s : ByteArray) (i : Nat) : bt (s.extract i s.size) 1 = (byt s.data.toList (i + 1) : Int) := bt_ext s i 1
theorem hx_j2q (q : Nat) (y : ByteArray) (z : List Int) : value_bytes.j2 (q + 1) y z true = some (0, 0, ⟨#[]⟩, ⟨#[]⟩, 3) := by rw [value_bytes.j2, if_pos rfl]
theorem hx_ne (s : ByteArray) (i : Nat) (h : i < s.size) : ¬ (s.extract i s.size).toList = [] := fun e => by
  have := (toList_nil _).1 e
  rw [ByteArray.size_extract] at this
  omega
def hexGo (s : ByteArray) : Nat → Nat → List Int → Int × Int × ByteArray × ByteArray × Int
  | 0, _, _ => (0, 0, ⟨#[]⟩, ⟨#[]⟩, 3)
  | m + 1, i, xs =>
    if s.size ≤ i then (0, 0, ⟨#[]⟩, ⟨#[]⟩, 3)
    else if byt s.data.toList i = 39 then (if xs.length > 200 then (0, 0, ⟨#[]⟩, ⟨#[]⟩, 2) else (4, 0, strOfNums xs, s.extract (i + 1) s.size, 0))
    else if s.size < i + 2 ∨ hexV (byt s.data.toList i) < 0 ∨ hexV (byt s.data.toList (i + 1)) < 0 then (0, 0, ⟨#[]⟩, ⟨#[]⟩, 3)
    else hexGo s m (i + 2) (xs ++ [(16 * hexV (byt s.data.toList i) + hexV (byt s.data.toList (i + 1))) % 256])
end Go.Proofs.YtkdndabpaajkaaaGreatDoor.U8
namespace Go.Proofs.YtkdndabpaajkaaaGreatDoor.U8
open Go.RowKit Go.Proofs.YtkdndabpaajkaaaGreatDoor.A Go.Proofs.YtkdndabpaajkaaaGreatDoorW.PrintWords Go.Proofs.YtkdndabpaajkaaaGreatDoorW.PrintLast Go.Lib
set_option linter.unusedVariables false
set_option linter.unusedSimpArgs false
def isCtl (c : Int) : Bool := decide (0 ≤ c ∧ c < 32) || c == 34 || c == 92 || c == 127
theorem enc_byte0 (c : Int) (h : 128 ≤ c) : 128 ≤ byt (Utf8.encode c).data.toList 0 := by
  unfold Utf8.encode
  have hb : ∀ n : Nat, 128 ≤ n → n < 256 → 128 ≤ (UInt8.ofNat n).toNat := fun n h1 h2 => by
    rw [UInt8.toNat_ofNat']; omega
  simp only
  generalize hc : (if Utf8.valid c = true then c.toNat else Utf8.runeError) = q
  have hq : 128 ≤ q ∧ q ≤ 1114111 := by
    rw [← hc]
    split
    · rename_i hv
      unfold Utf8.valid at hv
      simp only [Bool.or_eq_true, Bool.and_eq_true, decide_eq_true_eq] at hv
      omega
    · unfold Utf8.runeError; omega
  rw [if_neg (by omega)]
  unfold byt
  split
  · exact hb _ (by omega) (by omega)
  split
  · exact hb _ (by omega) (by omega)
  · exact hb _ (by omega) (by omega)
theorem escB_byte0 (c : Int) (h0 : 0 ≤ c) (h : byt (escB c).data.toList 0 = 92) : isCtl c = true := by
  by_cases h128 : c < 128
  · have all : ∀ n : Fin 128, byt (escB (n.val : Int)).data.toList 0 = 92 → isCtl (n.val : Int) = true := by decide +kernel
    have := all ⟨c.toNat, by omega⟩
    simp only [Int.toNat_of_nonneg h0] at this
    exact this h
  · have := enc_byte0 c (by omega)
    unfold escB at h
    rw [if_neg (by omega), if_neg (by omega), if_neg (by omega), if_neg (by omega), if_neg (by omega)] at h
    omega
theorem isCtl_lt (c : Int) (h : isCtl c = true) : 0 ≤ c ∧ c < 128 := by
  unfold isCtl at h
  simp only [Bool.or_eq_true, decide_eq_true_eq, beq_iff_eq] at h
  omega
theorem isCtl_byte0 (c : Int) (h : isCtl c = true) : byt (escB c).data.toList 0 = 92 := by
  have hr := isCtl_lt c h
  have all : ∀ n : Fin 128, isCtl (n.val : Int) = true → byt (escB (n.val : Int)).data.toList 0 = 92 := by decide +kernel
  have := all ⟨c.toNat, by omega⟩
  simp only [Int.toNat_of_nonneg hr.1] at this
  exact this h
theorem pre_iff (s p : ByteArray) : preB s p = true ↔ p.size ≤ s.size ∧ s.data.toList.take p.size = p.data.toList := by
  unfold preB
  by_cases h : p.size ≤ s.size
  · rw [if_pos h, beq_iff_eq]
    have e : (s.extract 0 p.size).toList = s.data.toList.take p.size := by
      rw [ByteArray.toList_eq, ByteArray.data_extract, Array.toList_extract]
      simp
    rw [e, ByteArray.toList_eq]
    exact ⟨fun x => ⟨h, x⟩, fun x => x.2⟩
  · rw [if_neg h]
    simp [h]
theorem byt_take (l : List UInt8) (n i : Nat) (h : i < n) : byt (l.take n) i = byt l i := by
  unfold byt
  rw [List.getD_eq_getElem?_getD, List.getD_eq_getElem?_getD, List.getElem?_take_of_lt h]
theorem pre_at {s p : ByteArray} (h : preB s p = true) (i : Nat) (hi : i < p.size) : byt s.data.toList i = byt p.data.toList i := by
  obtain ⟨h1, h2⟩ := (pre_iff s p).1 h
  rw [← h2, byt_take _ _ _ hi]
theorem ctl_once (s : ByteArray) (a b : Int) (ha : isCtl a = true) (hb : isCtl b = true) (pa : preB s (escB a) = true) (pb : preB s (escB b) = true) : a = b := by
  have ra := isCtl_lt a ha
  have rb := isCtl_lt b hb
  have all : ∀ x y : Fin 128, isCtl (x.val : Int) = true → isCtl (y.val : Int) = true → (escB (x.val : Int)).data.toList.take (escB (y.val : Int)).size = (escB (y.val : Int)).data.toList.take (escB (x.val : Int)).size → x = y := by decide +kernel
  have := all ⟨a.toNat, by omega⟩ ⟨b.toNat, by omega⟩
  simp only [Int.toNat_of_nonneg ra.1, Int.toNat_of_nonneg rb.1] at this
  have e := this ha hb (by
    rw [← ((pre_iff _ _).1 pa).2, ← ((pre_iff _ _).1 pb).2, List.take_take, List.take_take, Nat.min_comm])
  have := congrArg Fin.val e
  simp only at this
  omega
def ctlF (s : ByteArray) : Nat → Nat → Option Nat
  | 0, _ => none
  | m + 1, c => if isCtl c = true ∧ preB s (escB c) = true then some c else ctlF s m (c + 1)
theorem ctlF_some (s : ByteArray) : ∀ m c r, ctlF s m c = some r → c ≤ r ∧ r < c + m ∧ isCtl r = true ∧ preB s (escB r) = true
  | 0, c, r, h => by simp [ctlF] at h
  | m + 1, c, r, h => by
    rw [ctlF] at h
    split at h
    · rename_i h1
      obtain rfl := Option.some.inj h
      exact ⟨by omega, by omega, h1.1, h1.2⟩
    · have := ctlF_some s m (c + 1) r h
      exact ⟨by omega, by omega, this.2.2⟩
theorem ctlF_none (s : ByteArray) : ∀ m c, ctlF s m c = none → ∀ r : Nat, c ≤ r → r < c + m → isCtl r = true → preB s (escB r) = true → False
  | 0, c, h, r, h1, h2, _, _ => by omega
  | m + 1, c, h, r, h1, h2, h3, h4 => by
    rw [ctlF] at h
    split at h
    · cases h
    · rename_i hn
      by_cases e : r = c
      · subst e; exact hn ⟨h3, h4⟩
      · exact ctlF_none s m (c + 1) h r (by omega) (by omega) h3 h4
def ctl (s : ByteArray) : Option Nat := ctlF s 128 0
theorem ctl_of (s : ByteArray) (c : Int) (h : isCtl c = true) (hp : preB s (escB c) = true) : ctl s = some c.toNat := by
  have hr := isCtl_lt c h
  cases e : ctl s with
  | none => exact absurd hp (fun hp => ctlF_none s 128 0 e c.toNat (by omega) (by omega) (by rw [Int.toNat_of_nonneg hr.1]; exact h) (by rw [Int.toNat_of_nonneg hr.1]; exact hp))
  | some r =>
    have := ctlF_some s 128 0 r e
    have e2 := ctl_once s r c this.2.2.1 h this.2.2.2 hp
    rw [← e2, Int.toNat_natCast]
theorem ctl_lt (s : ByteArray) (c : Nat) (h : ctl s = some c) : c < 128 ∧ isCtl c = true ∧ preB s (escB c) = true := by
  have := ctlF_some s 128 0 c h
  exact ⟨by omega, this.2.2⟩
-- the reference's side
theorem escB_pos (c : Int) (h : 0 ≤ c) (h2 : c < 128) : 0 < (escB c).size := by
  have all : ∀ n : Fin 128, 0 < (escB (n.val : Int)).size := by decide +kernel
  have := all ⟨c.toNat, by omega⟩
  simpa only [Int.toNat_of_nonneg h] using this
end Go.Proofs.YtkdndabpaajkaaaGreatDoor.U8
namespace Go.Proofs.YtkdndabpaajkaaaGreatDoor.U8
open Go.RowKit Go.Proofs.YtkdndabpaajkaaaGreatDoor.A Go.Proofs.YtkdndabpaajkaaaGreatDoorW.PrintWords Go.Proofs.YtkdndabpaajkaaaGreatDoorW.PrintLast Go.Lib
set_option linter.unusedVariables false
set_option linter.unusedSimpArgs false
theorem or4 (n b : Int) (h0 : 0 ≤ n) (h1 : n < 1000000000) (b0 : 0 ≤ b) (b1 : b < 16) : Go.bits .or .i64 (wrap64 (n * 16)) b = 16 * n + b := by
  rw [w64 (by omega) (by omega)]
  have e63 : (2 : Int) ^ 63 = 9223372036854775808 := by decide
  have e4 : (2 : Int) ^ 4 = 16 := by decide
  have h := bits_join .i64 63 (by decide) (fun n h0 h1 => by rw [e63] at h1; rw [IntKind.wrap_i64]; omega) 4 (n * 16) b (by omega) (by rw [e4]; omega) (by rw [e63]; omega) b0 (by rw [e4]; omega) (by rw [e63]; omega)
  rw [h]; omega
def okR (X : Option (Int × Int)) (b : Int) : Prop := ∃ r1 r2, X = some (r1, r2) ∧ 0 ≤ r1 ∧ r1 ≤ 1114111 ∧ 0 ≤ r2 ∧ r2 ≤ b
theorem okR_no (b : Int) (h : 0 ≤ b) : okR (some (0, 0)) b := ⟨0, 0, rfl, by omega, by omega, by omega, h⟩
theorem okR_ite {c : Prop} [Decidable c] {A B : Option (Int × Int)} {b : Int} (h : c → okR A b) (k : ¬ c → okR B b) : okR (if c then A else B) b := by
  by_cases e : c
  · rw [if_pos e]; exact h e
  · rw [if_neg e]; exact k e
theorem num_done (i : Nat) (n : Int) (hi : i ≤ 6) (n0 : 0 ≤ n) (h : ¬ n > 1114111) : okR (some (wrap32 n, wrap64 ((i : Int) + 1))) 7 := by
  have w1 : wrap64 ((i : Int) + 1) = ((i + 1 : Nat) : Int) := by rw [w64 (by omega) (by omega)]; omega
  exact ⟨_, _, rfl, by unfold wrap32; omega, by unfold wrap32; omega, by rw [w1]; omega, by rw [w1]; omega⟩
theorem num_fin (s : ByteArray) (i : Nat) (n : Int) (hi : i ≤ 6) (hz : i < s.size) (n0 : 0 ≤ n) :
    okR (if (i : Int) = 0 then (some (0, 0)) else (if (i : Int) = (s.size : Int) then (some (0, 0)) else (if bt s (i : Int) = 125 then (if 0 < (s.size : Int) then (if (bt s 0) = 48 then (if (i : Int) > 1 then (some (0, 0)) else (if n > 1114111 then (some (0, 0)) else (some (wrap32 (n), wrap64 ((i : Int) + 1))))) else (if n > 1114111 then (some (0, 0)) else (some (wrap32 (n), wrap64 ((i : Int) + 1))))) else (none)) else (some (0, 0))))) 7 := by
  have no := okR_no 7 (by omega)
  have big : okR (if n > 1114111 then (some (0, 0)) else (some (wrap32 (n), wrap64 ((i : Int) + 1)))) 7 := okR_ite (fun _ => no) (fun h => num_done i n hi n0 h)
  refine okR_ite (fun _ => no) (fun _ => okR_ite (fun _ => no) (fun _ => okR_ite (fun _ => ?_) (fun _ => no)))
  rw [if_pos (by omega)]
  exact okR_ite (fun _ => okR_ite (fun _ => no) (fun _ => big)) (fun _ => big)
theorem num_end (s : ByteArray) (k i : Nat) (n : Int) (hi : i ≤ 6) (hz : i ≤ s.size) (n0 : 0 ≤ n) (hs : i = 6 ∨ i = s.size ∨ hexV (byt s.data.toList i) < 0) : okR (value_numbered.l0 (k + 1) s n (i : Int)) 7 := by
  have no := okR_no 7 (by omega)
  rw [value_numbered.l0]
  by_cases hlt : i < s.size
  · have fin := num_fin s i n hi hlt n0
    rw [if_pos (by omega)]
    by_cases h6 : i < 6
    · have v : hexV (byt s.data.toList i) < 0 := by omega
      rw [if_pos (by omega), if_pos (by omega), btq s i, digit_q _ (byt_lt _ _), Option.bind_some, if_neg (by omega), ← btq s i]
      exact fin
    · rw [if_neg (by omega), if_neg (by omega), if_neg (by omega), if_pos (by omega)]
      rw [if_neg (by omega), if_neg (by omega)] at fin
      exact fin
  · rw [if_neg (by omega)]
    exact okR_ite (fun _ => no) (fun _ => by rw [if_pos (by omega)]; exact no)
theorem num_step (u : ByteArray) (k i : Nat) (n v : Int) (hi : i < 6) (hz : i < u.size) (hv : hexV (byt u.data.toList i) = v) (v0 : 0 ≤ v) (n0 : 0 ≤ n) (n1 : n < 1000000000) :
    value_numbered.l0 (k + 1) u n (i : Int) = value_numbered.l0 k u (16 * n + v) ((i + 1 : Nat) : Int) := by
  have g := byt_lt u.data.toList i
  have w1 : wrap64 ((i : Int) + 1) = ((i + 1 : Nat) : Int) := by rw [w64 (by omega) (by omega)]; omega
  have v1 := hexV_lt (byt u.data.toList i)
  rw [value_numbered.l0, if_pos (by omega), if_pos (by omega), if_pos (by omega), btq, digit_q _ g, Option.bind_some]
  rw [hv, if_pos v0, Option.bind_some, or4 n v n0 n1 v0 (by omega), w1]
theorem num_tot (s : ByteArray) (hs : s.size < 1000000) (k : Nat) : ∀ (m i n : Nat), i + m = 6 → i ≤ s.size → n < 16 ^ i → okR (value_numbered.l0 (k + m + 1) s (n : Int) (i : Int)) 7
  | 0, i, n, hm, hz, h1 => num_end s (k + 0) i n (by omega) hz (by omega) (by omega)
  | m + 1, i, n, hm, hz, h1 => by
    by_cases hb : i = s.size ∨ hexV (byt s.data.toList i) < 0
    · exact num_end s (k + (m + 1)) i n (by omega) hz (by omega) (by omega)
    · have hp : 16 ^ i ≤ 16 ^ 6 := Nat.pow_le_pow_right (by decide) (by omega)
      have e6 : 16 ^ 6 = 16777216 := by decide
      rw [e6] at hp
      have v := hexV_lt (byt s.data.toList i)
      rw [num_step s (k + (m + 1)) i n _ (by omega) (by omega) rfl (by omega) (by omega) (by omega)]
      have e : 16 * (n : Int) + hexV (byt s.data.toList i) = ((16 * n + (hexV (byt s.data.toList i)).toNat : Nat) : Int) := by omega
      rw [e, show k + (m + 1) = k + m + 1 by omega]
      exact num_tot s hs k m (i + 1) _ (by omega) (by omega) (by rw [Nat.pow_succ]; omega)
theorem esc_tot (t : ByteArray) (ht : t.size < 1000000) (k : Nat) : okR (value_escaped.f (k + 9) t) 9 := by
  have no := okR_no 9 (by omega)
  have yes : ∀ c : Int, 0 ≤ c → c ≤ 1114111 → okR (some (c, 1)) 9 := fun c h0 h1 => ⟨c, 1, rfl, h0, h1, by omega, by omega⟩
  unfold value_escaped.f
  by_cases h0 : t.toList = ([] : List UInt8)
  · rw [if_pos h0]; exact no
  have hz : t.size ≠ 0 := fun h => h0 ((toList_nil t).2 h)
  rw [if_neg h0, if_pos (by omega)]
  have g := byt_lt t.data.toList 0
  have j1 : ∀ b, 2 ≤ t.size ∨ b = false → okR (value_escaped.j1 (k + 8) t b) 9 := by
    intro b hb
    rw [value_escaped.j1]
    cases b
    · rw [if_neg (by decide)]; exact no
    · have h2 : 2 ≤ t.size := hb.resolve_right (by decide)
      rw [if_pos rfl, if_pos (by omega)]
      unfold value_numbered.f
      obtain ⟨r1, r2, h, a1, a2, a3, a4⟩ := num_tot (t.extract 2 t.size) (by rw [ByteArray.size_extract]; omega) k 6 0 0 rfl (by omega) (by decide)
      rw [show value_numbered.l0 (k + 7) (t.extract 2 t.size) 0 0 = some (r1, r2) from h, Option.bind_some]
      have w2 : wrap64 (r2 + 2) = r2 + 2 := w64 (by omega) (by omega)
      refine okR_ite (fun _ => ?_) (fun _ => ⟨_, _, rfl, a1, a2, a3, by omega⟩)
      exact ⟨_, _, rfl, a1, a2, by rw [w2]; omega, by rw [w2]; omega⟩
  have wb : wrap32 (bt t 0) = (byt t.data.toList 0 : Int) := by
    rw [show bt t 0 = _ from btq t 0]; unfold wrap32; omega
  have j0 : ∀ b, okR (value_escaped.j0 (k + 9) t (bt t 0) b) 9 := by
    intro b
    rw [value_escaped.j0]
    cases b
    · rw [if_neg (by decide)]
      refine okR_ite (fun _ => yes 10 (by omega) (by omega)) (fun _ => okR_ite (fun _ => yes 9 (by omega) (by omega)) (fun _ => okR_ite (fun _ => yes 13 (by omega) (by omega)) (fun _ => okR_ite (fun _ => okR_ite (fun h => ?_) (fun _ => j1 _ (.inr rfl))) (fun _ => no))))
      rw [if_pos (by omega)]
      exact j1 _ (.inl (by omega))
    · rw [if_pos rfl, if_pos (by omega), wb]; exact yes _ (by omega) (by omega)
  exact okR_ite (fun _ => j0 _) (fun _ => j0 _)
theorem num_last (u : ByteArray) (k i : Nat) (n : Int) (h1 : 1 ≤ i) (hi : i < 6) (hz : i < u.size) (h125 : byt u.data.toList i = 125) (h48 : byt u.data.toList 0 = 48 → i ≤ 1) (n0 : 0 ≤ n) (n1 : n ≤ 1114111) :
    value_numbered.l0 (k + 1) u n (i : Int) = some (n, ((i + 1 : Nat) : Int)) := by
  have w1 : wrap64 ((i : Int) + 1) = ((i + 1 : Nat) : Int) := by rw [w64 (by omega) (by omega)]; omega
  have w2 : wrap32 n = n := by unfold wrap32; omega
  have b0 : bt u 0 = (byt u.data.toList 0 : Int) := btq u 0
  rw [value_numbered.l0, if_pos (by omega), if_pos (by omega), if_pos (by omega), btq, digit_q _ (byt_lt _ _), h125, b0, Option.bind_some]
  rw [if_neg (by decide), if_neg (by omega), if_neg (by omega), if_pos (show ((125 : Nat) : Int) = 125 from rfl), if_pos (by omega), w1, w2]
  by_cases c : ((byt u.data.toList 0 : Nat) : Int) = 48
  · rw [if_pos c, if_neg (by have := h48 (by omega); omega), if_neg (by omega)]
  · rw [if_neg c, if_neg (by omega)]
theorem esc_c (s : ByteArray) (c : Int) (hc : isCtl c = true) (hp : preB s (escB c) = true) (k : Nat) :
    value_escaped.f (k + 9) (s.extract 1 s.size) = some (c, ((escB c).size : Int) - 1) := by
  have hr := isCtl_lt c hc
  have hz := ((pre_iff _ _).1 hp).1
  have at1 : ∀ j, 1 + j < (escB c).size → bt (s.extract 1 s.size) (j : Int) = (byt (escB c).data.toList (1 + j) : Int) := fun j hj => by rw [bt_ext, pre_at hp _ hj]
  have at3 : ∀ j, 3 + j < (escB c).size → byt ((s.extract 1 s.size).extract 2 (s.extract 1 s.size).size).data.toList j = byt (escB c).data.toList (3 + j) := fun j hj => by
    rw [ext_ext, extract_toList, byt_drop, pre_at hp _ hj]
  have tz : (s.extract 1 s.size).size = s.size - 1 := by rw [ByteArray.size_extract]; omega
  have uz : ((s.extract 1 s.size).extract 2 (s.extract 1 s.size).size).size = s.size - 3 := by rw [ByteArray.size_extract, tz]; omega
  have two := fun n : Fin 128 => (by decide +kernel : ∀ n : Fin 128, isCtl (n.val : Int) = true → 2 ≤ (escB (n.val : Int)).size) n
  have two' := two ⟨c.toNat, by omega⟩
  simp only [Int.toNat_of_nonneg hr.1] at two'
  have z2 := two' hc
  generalize hT : s.extract 1 s.size = t at *
  have hne : ¬ t.toList = [] := fun h => by have := (toList_nil _).1 h; omega
  have b0 := at1 0 (by omega)
  unfold value_escaped.f
  rw [if_neg hne, if_pos (by omega)]
  by_cases cA : c = 34 ∨ c = 92
  · have e : (byt (escB c).data.toList (1 + 0) : Int) = c ∧ ((escB c).size : Int) - 1 = 1 := by rcases cA with rfl | rfl <;> decide +kernel
    rw [show bt t 0 = c from b0.trans e.1, e.2]
    have j : ∀ b, b = true → value_escaped.j0 (k + 9) t c b = some (c, 1) := fun b hb => by
      rw [value_escaped.j0, if_pos hb, if_pos (by omega), show bt t 0 = c from b0.trans e.1]
      congr 2
      unfold wrap32; omega
    rcases cA with h | h
    · rw [if_pos h]; exact j _ (by rw [h]; rfl)
    · rw [if_neg (by omega)]; exact j _ (by rw [h]; rfl)
  by_cases cB : c = 9 ∨ c = 10 ∨ c = 13
  · rcases cB with rfl | rfl | rfl
    · rw [show bt t 0 = 116 from b0.trans (by decide +kernel)]
      rw [if_neg (by decide), value_escaped.j0, if_neg (by decide), if_neg (by decide), if_pos rfl]
      decide +kernel
    · rw [show bt t 0 = 110 from b0.trans (by decide +kernel)]
      rw [if_neg (by decide), value_escaped.j0, if_neg (by decide), if_pos rfl]
      decide +kernel
    · rw [show bt t 0 = 114 from b0.trans (by decide +kernel)]
      rw [if_neg (by decide), value_escaped.j0, if_neg (by decide), if_neg (by decide), if_neg (by decide), if_pos rfl]
      decide +kernel
  have hN : ∀ X : Option (Int × Int), 5 ≤ (escB c).size → byt (escB c).data.toList 1 = 117 → byt (escB c).data.toList 2 = 123 → value_numbered.l0 (k + 7) (t.extract 2 t.size) 0 0 = some (c, ((escB c).size : Int) - 3) → (if bt t 0 = 34 then value_escaped.j0 (k + 9) t (bt t 0) (bt t 0 == 34) else value_escaped.j0 (k + 9) t (bt t 0) (bt t 0 == 92)) = some (c, ((escB c).size : Int) - 1) := by
    intro _ h5 e1 e2 e3
    have b1 := at1 1 (by omega)
    have b1' : bt t 1 = 123 := b1.trans (by rw [show 1 + 1 = 2 from rfl, e2]; rfl)
    rw [show bt t 0 = 117 from b0.trans (by rw [show 1 + 0 = 1 from rfl, e1]; rfl)]
    rw [if_neg (by decide), value_escaped.j0, if_neg (by decide), if_neg (by decide), if_neg (by decide), if_neg (by decide), if_pos rfl, if_pos (by omega), if_pos (by omega), b1', value_escaped.j1, if_pos (show ((123 : Int) == 123) = true from rfl), if_pos (by omega)]
    unfold value_numbered.f
    rw [e3, Option.bind_some]
    have le6 := escB_le c
    rw [if_pos (by omega), w64 (by omega) (by omega)]
    congr 2
    omega
  by_cases cC : c < 16
  · have all : ∀ n : Fin 16, n.val ≠ 9 → n.val ≠ 10 → n.val ≠ 13 → (escB (n.val : Int)).size = 5 ∧ byt (escB (n.val : Int)).data.toList 1 = 117 ∧ byt (escB (n.val : Int)).data.toList 2 = 123 ∧ hexV (byt (escB (n.val : Int)).data.toList 3) = n.val ∧ byt (escB (n.val : Int)).data.toList 4 = 125 := by decide +kernel
    have a := all ⟨c.toNat, by omega⟩
    simp only [Int.toNat_of_nonneg hr.1] at a
    obtain ⟨a1, a2, a3, a4, a5⟩ := a (by omega) (by omega) (by omega)
    refine hN none (by omega) a2 a3 ?_
    have s0 := num_step (t.extract 2 t.size) (k + 6) 0 0 c (by omega) (by omega) (by rw [at3 0 (by omega)]; exact a4) hr.1 (by omega) (by omega)
    have s1 := num_last (t.extract 2 t.size) (k + 5) 1 c (by omega) (by omega) (by omega) (by rw [at3 1 (by omega)]; exact a5) (fun _ => by omega) hr.1 (by omega)
    rw [show k + 7 = k + 6 + 1 by omega]
    refine s0.trans ?_
    rw [show 16 * 0 + c = c by omega, show k + 6 = k + 5 + 1 by omega]
    refine s1.trans ?_
    rw [a1]; rfl
  · have hcc : 16 ≤ c ∧ c < 32 ∨ c = 127 := by
      unfold isCtl at hc
      simp only [Bool.or_eq_true, decide_eq_true_eq, beq_iff_eq] at hc
      omega
    have all : ∀ n : Fin 128, (16 ≤ n.val ∧ n.val < 32 ∨ n.val = 127) → (escB (n.val : Int)).size = 6 ∧ byt (escB (n.val : Int)).data.toList 1 = 117 ∧ byt (escB (n.val : Int)).data.toList 2 = 123 ∧ hexV (byt (escB (n.val : Int)).data.toList 3) = (n.val / 16 : Nat) ∧ hexV (byt (escB (n.val : Int)).data.toList 4) = (n.val % 16 : Nat) ∧ byt (escB (n.val : Int)).data.toList 5 = 125 ∧ byt (escB (n.val : Int)).data.toList 3 ≠ 48 := by decide +kernel
    have a := all ⟨c.toNat, by omega⟩
    simp only [Int.toNat_of_nonneg hr.1] at a
    obtain ⟨a1, a2, a3, a4, a5, a6, a7⟩ := a (by omega)
    refine hN none (by omega) a2 a3 ?_
    have s0 := num_step (t.extract 2 t.size) (k + 6) 0 0 (c.toNat / 16 : Nat) (by omega) (by omega) (by rw [at3 0 (by omega)]; exact a4) (by omega) (by omega) (by omega)
    have s1 := num_step (t.extract 2 t.size) (k + 5) 1 (16 * 0 + (c.toNat / 16 : Nat)) (c.toNat % 16 : Nat) (by omega) (by omega) (by rw [at3 1 (by omega)]; exact a5) (by omega) (by omega) (by omega)
    have e : 16 * (16 * 0 + ((c.toNat / 16 : Nat) : Int)) + ((c.toNat % 16 : Nat) : Int) = c := by omega
    rw [e] at s1
    have s2 := num_last (t.extract 2 t.size) (k + 4) 2 c (by omega) (by omega) (by omega) (by rw [at3 2 (by omega)]; exact a6) (fun h => absurd h (by rw [at3 0 (by omega)]; exact a7)) hr.1 (by omega)
    exact (s0.trans (s1.trans (s2.trans (by rw [a1]; rfl))))
theorem next_j1 (s : ByteArray) (c n : Int) (h : 0 ≤ c) (k : Nat) : value_next.j1 (k + 1) s c n = some (if preB s (escB c) = true ∧ ((escB c).size : Int) = n then (c, n) else (0, 0)) := by
  rw [value_next.j1, show value_escape.f c = some (escB c) by unfold value_escape.f; rw [if_pos h]]
  simp only [Option.bind_some]
  rw [pre_q]
  simp only [Option.bind_some]
  by_cases a : preB s (escB c) = true
  · rw [if_pos a]
    by_cases b : ((escB c).size : Int) = n
    · rw [if_pos b, if_pos ⟨a, b⟩]
    · rw [if_neg b, if_neg (fun h => b h.2)]
  · rw [if_neg a, if_neg (fun h => a h.1)]
theorem list_ne {s : ByteArray} (h : s.size ≠ 0) : s.data.toList ≠ [] := by
  intro e
  apply h
  have := congrArg List.length e
  simpa [Array.length_toList] using this
theorem next_bs (s : ByteArray) (hs : s.size < 1000000) (hz : s.size ≠ 0) (h92 : byt s.data.toList 0 = 92) (k : Nat) :
    value_next.f (k + 10) s = some (match ctl s with | some c => ((c : Int), ((escB (c : Int)).size : Int)) | none => (0, 0)) := by
  have hd : Lib.decodeGo s = (92, 1) := by
    rw [decGo s hz, decodeL_byt, h92]
    unfold decodeN
    rw [if_pos (by omega)]
  unfold value_next.f utf8_DecodeRuneInString.f
  rw [hd]
  simp only [Option.bind_some]
  rw [if_neg (by decide), value_next.j0, if_neg (by decide), if_pos (by decide), if_pos (by omega)]
  cases e : ctl s with
  | some c =>
    obtain ⟨h1, h2, h3⟩ := ctl_lt s c e
    have hp := escB_pos c (by omega) (by omega)
    have two := (by decide +kernel : ∀ n : Fin 128, isCtl (n.val : Int) = true → 2 ≤ (escB (n.val : Int)).size) ⟨c, h1⟩ h2
    simp only at two
    have le6 := escB_le (c : Int)
    rw [esc_c s c h2 h3 k, Option.bind_some]
    dsimp only
    rw [if_neg (by omega), w64 (by omega) (by omega), next_j1 _ _ _ (by omega), if_pos ⟨h3, by omega⟩]
    simp
  | none =>
    obtain ⟨r1, r2, h, a1, a2, a3, a4⟩ := esc_tot (s.extract 1 s.size) (by rw [ByteArray.size_extract]; omega) k
    rw [h, Option.bind_some]
    dsimp only
    by_cases c : r2 = 0
    · rw [if_pos c]
    · rw [if_neg c, next_j1 _ _ _ a1, if_neg]
      rintro ⟨h1, h2⟩
      have w : wrap64 (r2 + 1) = r2 + 1 := w64 (by omega) (by omega)
      have h0 := pre_at h1 0 (by omega)
      have hc := escB_byte0 r1 a1 (by omega)
      rw [ctl_of s r1 hc h1] at e
      cases e
theorem enc_rune (r : Nat) (hv : r < 55296 ∨ (57343 < r ∧ r ≤ 1114111)) : (Utf8.encode (r : Int)).data.toList = encodeRune (r : Int) := by
  have hvalid : Utf8.valid (r : Int) = true := by
    unfold Utf8.valid
    simp only [Bool.or_eq_true, Bool.and_eq_true, decide_eq_true_eq]
    omega
  unfold Utf8.encode encodeRune
  simp only [hvalid, if_true, Int.toNat_natCast]
  by_cases c1 : r < 128
  · rw [if_pos c1, encodeRuneZ_one (by omega) (by omega)]; simp
  by_cases c2 : r < 2048
  · rw [if_neg c1, if_pos c2, encodeRuneZ_two (by omega) (by omega)]
    simp only [List.map_cons, List.map_nil]
    rw [show (192 + (r : Int) / 64).toNat = 192 + r / 64 by omega, show (128 + (r : Int) % 64).toNat = 128 + r % 64 by omega]
  by_cases c3 : r < 65536
  · rw [if_neg c1, if_neg c2, if_pos c3, encodeRuneZ_three (by omega)]
    simp only [List.map_cons, List.map_nil]
    rw [show (224 + (r : Int) / 4096).toNat = 224 + r / 4096 by omega, show (128 + (r : Int) / 64 % 64).toNat = 128 + r / 64 % 64 by omega, show (128 + (r : Int) % 64).toNat = 128 + r % 64 by omega]
  · rw [if_neg c1, if_neg c2, if_neg c3, encodeRuneZ_four (by omega) (by omega)]
    simp only [List.map_cons, List.map_nil]
    rw [show (240 + (r : Int) / 262144).toNat = 240 + r / 262144 by omega, show (128 + (r : Int) / 4096 % 64).toNat = 128 + r / 4096 % 64 by omega, show (128 + (r : Int) / 64 % 64).toNat = 128 + r / 64 % 64 by omega, show (128 + (r : Int) % 64).toNat = 128 + r % 64 by omega]
theorem dec_byte0 (l : List UInt8) (h : (dec l).2 ≠ 0) (hc : (dec l).1 < 128) : byt l 0 = (dec l).1 := by
  have h0 := byt_lt l 0
  have h1 := byt_lt l 1
  have h2 := byt_lt l 2
  have h3 := byt_lt l 3
  revert h hc
  unfold dec decR tl
  repeat' split
  all_goals first | (intro h; exact absurd rfl h) | (intro h hc; simp only at hc ⊢ <;> omega)
theorem next_pl (s : ByteArray) (hz : s.size ≠ 0) (h92 : byt s.data.toList 0 ≠ 92) (h34 : byt s.data.toList 0 ≠ 34) (k : Nat) :
    value_next.f (k + 10) s = some (if (dec s.data.toList).2 = 0 ∨ (dec s.data.toList).1 < 32 ∨ (dec s.data.toList).1 = 127 then (0, 0) else (((dec s.data.toList).1 : Int), ((dec s.data.toList).2 : Int))) := by
  have hne := list_ne hz
  have hl : s.data.toList.length = s.size := Array.length_toList
  unfold value_next.f utf8_DecodeRuneInString.f
  rw [decGo s hz]
  simp only [Option.bind_some]
  by_cases hd : (dec s.data.toList).2 = 0
  · have e := dec_decodeL s.data.toList hne
    have e2 : decodeL s.data.toList = (65533, 1) := by
      by_cases h : decodeL s.data.toList = (65533, 1)
      · exact h
      · rw [if_neg h] at e
        have hw : 1 ≤ (decodeL s.data.toList).2 := Lib.width_pos _ 0
        rw [← e] at hw
        omega
    rw [e2, if_pos (by decide), value_next.j0, if_pos (by decide), if_pos (.inl hd)]
  · obtain ⟨e, hv, he, _⟩ := dec_enc s.data.toList hd
    rw [e]
    have hj : ∀ b, (b = false) → value_next.j0 (k + 10) s ((dec s.data.toList).1 : Int) ((dec s.data.toList).2 : Int) b = some (if (dec s.data.toList).2 = 0 ∨ (dec s.data.toList).1 < 32 ∨ (dec s.data.toList).1 = 127 then (0, 0) else (((dec s.data.toList).1 : Int), ((dec s.data.toList).2 : Int))) := by
      intro b hb
      have hw := dec_width s.data.toList
      have n92 : (dec s.data.toList).1 ≠ 92 := fun h => h92 ((dec_byte0 _ hd (by omega)).trans h)
      have n34 : (dec s.data.toList).1 ≠ 34 := fun h => h34 ((dec_byte0 _ hd (by omega)).trans h)
      rw [value_next.j0, hb, if_neg (by decide), if_neg (by omega), next_j1 _ _ _ (by omega)]
      by_cases hc : (dec s.data.toList).1 < 32 ∨ (dec s.data.toList).1 = 127
      · have hno : ¬ (preB s (escB ((dec s.data.toList).1 : Int)) = true ∧ ((escB ((dec s.data.toList).1 : Int)).size : Int) = ((dec s.data.toList).2 : Int)) := by
          rintro ⟨h1, h2⟩
          have hic : isCtl ((dec s.data.toList).1 : Int) = true := by
            unfold isCtl
            simp only [Bool.or_eq_true, decide_eq_true_eq, beq_iff_eq]
            omega
          have hp := escB_pos ((dec s.data.toList).1 : Int) (by omega) (by omega)
          exact h92 ((pre_at h1 0 hp).trans (isCtl_byte0 _ hic))
        have hD : (dec s.data.toList).2 = 0 ∨ (dec s.data.toList).1 < 32 ∨ (dec s.data.toList).1 = 127 := .inr hc
        rw [if_neg hno, if_pos hD]
      · have eb : escB ((dec s.data.toList).1 : Int) = Utf8.encode ((dec s.data.toList).1 : Int) := by
          unfold escB
          rw [if_neg (by omega), if_neg (by omega), if_neg (by omega), if_neg (by omega), if_neg (by omega)]
        have er := enc_rune (dec s.data.toList).1 hv
        have ez : (Utf8.encode ((dec s.data.toList).1 : Int)).size = (dec s.data.toList).2 := by
          have e1 : (Utf8.encode ((dec s.data.toList).1 : Int)).size = (Utf8.encode ((dec s.data.toList).1 : Int)).data.toList.length := size_len _
          rw [e1, er, he, List.length_take]
          omega
        have hyes : preB s (escB ((dec s.data.toList).1 : Int)) = true ∧ ((escB ((dec s.data.toList).1 : Int)).size : Int) = ((dec s.data.toList).2 : Int) := by
          rw [eb]
          refine ⟨(pre_iff _ _).2 ⟨by omega, ?_⟩, by omega⟩
          rw [ez, er, he]
        have hD : ¬ ((dec s.data.toList).2 = 0 ∨ (dec s.data.toList).1 < 32 ∨ (dec s.data.toList).1 = 127) := by
          rintro (h | h)
          · exact hd h
          · exact hc h
        rw [if_pos hyes, if_neg hD]
    by_cases hc : ((dec s.data.toList).1 : Int) = 65533
    · rw [if_pos hc]
      apply hj
      apply decide_eq_false
      intro hlt
      have hw : (dec s.data.toList).2 = 1 := by omega
      have : (dec s.data.toList).1 < 128 := by
        revert hw
        unfold dec decR tl
        repeat' split
        all_goals first | (intro h; simp at h; done) | (intro h; simp only; omega)
      omega
    · rw [if_neg hc]
      exact hj _ rfl
end Go.Proofs.YtkdndabpaajkaaaGreatDoor.U8
namespace Go.Proofs.YtkdndabpaajkaaaGreatDoor.U8
open Go.RowKit Go.Proofs.YtkdndabpaajkaaaGreatDoor.A Go.Proofs.YtkdndabpaajkaaaGreatDoorW.PrintWords Go.Proofs.YtkdndabpaajkaaaGreatDoorW.PrintLast Go.Lib
set_option linter.unusedVariables false
set_option linter.unusedSimpArgs false
abbrev ScanR := Int × Int × ByteArray × ByteArray × Int
def errR (e : Int) : ScanR := (0, 0, (⟨#[]⟩ : ByteArray), (⟨#[]⟩ : ByteArray), e)
def txtGo (s : ByteArray) : Nat → Nat → List UInt8 → ScanR
  | 0, _, _ => errR 3
  | m + 1, i, acc =>
    if s.size ≤ i then errR 3
    else if byt s.data.toList i = 34 then (if acc.length > 200 then errR 2 else (2, 0, ⟨acc.toArray⟩, s.extract (i + 1) s.size, 0))
    else if byt s.data.toList i = 92 then (match ctl (s.extract i s.size) with
      | some c => txtGo s m (i + (escB (c : Int)).size) (acc ++ encodeRune (c : Int))
      | none => errR 3)
    else if (dec (s.data.toList.drop i)).2 = 0 ∨ (dec (s.data.toList.drop i)).1 < 32 ∨ (dec (s.data.toList.drop i)).1 = 127 then errR 3
    else txtGo s m (i + (dec (s.data.toList.drop i)).2) (acc ++ encodeRune ((dec (s.data.toList.drop i)).1 : Int))
theorem byt_ext (s : ByteArray) (i j : Nat) : byt (s.extract i s.size).data.toList j = byt s.data.toList (i + j) := by rw [extract_toList, byt_drop]
theorem ctl_size (s : ByteArray) (c : Nat) (h : ctl s = some c) : 2 ≤ (escB (c : Int)).size ∧ (escB (c : Int)).size ≤ 6 ∧ (escB (c : Int)).size ≤ s.size ∧ c < 128 := by
  obtain ⟨h1, h2, h3⟩ := ctl_lt s c h
  have two := (by decide +kernel : ∀ n : Fin 128, isCtl (n.val : Int) = true → 2 ≤ (escB (n.val : Int)).size) ⟨c, h1⟩ h2
  exact ⟨two, escB_le _, ((pre_iff _ _).1 h3).1, h1⟩
theorem text_q (s : ByteArray) (hs : s.size < 1000000) (K : Nat) : ∀ (m i : Nat) (acc : List UInt8), i ≤ s.size → s.size - i < m → value_text.go (K + 10) m (s.extract i s.size) acc = some (txtGo s m i acc)
  | 0, i, acc, h1, h2 => by omega
  | m + 1, i, acc, h1, h2 => by
    have hz : (s.extract i s.size).size = s.size - i := by rw [ByteArray.size_extract]; omega
    rw [value_text.go, txtGo]
    by_cases hi : i = s.size
    · rw [if_pos (by omega), if_pos (by omega)]; rfl
    rw [if_neg (show ¬ (s.extract i s.size).size = 0 by omega), if_neg (show ¬ s.size ≤ i by omega), bt_ext0]
    by_cases h34 : byt s.data.toList i = 34
    · rw [if_pos (show ((byt s.data.toList i : Nat) : Int) = 34 by omega), if_pos h34, ext_ext]
      by_cases h200 : acc.length > 200
      · rw [if_pos h200, if_pos h200]; rfl
      · rw [if_neg h200, if_neg h200]
    rw [if_neg (show ¬ ((byt s.data.toList i : Nat) : Int) = 34 by omega), if_neg h34]
    by_cases h92 : byt s.data.toList i = 92
    · rw [if_pos h92, next_bs (s.extract i s.size) (by omega) (by omega) (by rw [byt_ext]; exact h92) K, Option.bind_some]
      cases e : ctl (s.extract i s.size) with
      | none => dsimp only; rw [if_pos rfl]; rfl
      | some c =>
        have hc := ctl_size _ c e
        dsimp only
        rw [if_neg (by omega), if_pos (by omega), Int.toNat_natCast, ext_ext]
        exact text_q s hs K m (i + (escB (c : Int)).size) _ (by omega) (by omega)
    · rw [if_neg h92, next_pl (s.extract i s.size) (by omega) (by rw [byt_ext]; exact h92) (by rw [byt_ext]; exact h34) K, Option.bind_some, extract_toList]
      by_cases hd : (dec (s.data.toList.drop i)).2 = 0 ∨ (dec (s.data.toList.drop i)).1 < 32 ∨ (dec (s.data.toList.drop i)).1 = 127
      · rw [if_pos hd, if_pos hd, if_pos rfl]; rfl
      · have hw := dec_width (s.data.toList.drop i)
        have hl : (s.data.toList.drop i).length = s.size - i := by rw [List.length_drop, ← size_len]
        rw [if_neg hd, if_neg hd]
        dsimp only
        rw [if_neg (by omega), if_pos (by omega), Int.toNat_natCast, ext_ext]
        exact text_q s hs K m (i + (dec (s.data.toList.drop i)).2) _ (by omega) (by omega)
theorem mk_size (acc : List UInt8) : (⟨acc.toArray⟩ : ByteArray).size = acc.length := by
  show acc.toArray.size = _
  exact List.size_toArray ..
def txtS (s : ByteArray) : ScanR := txtGo s (s.size + 1) 1 []
theorem txt_q (s : ByteArray) (hs : s.size < 1000000) (hz : s.size ≠ 0) (k : Nat) (hk : s.size + 10 ≤ k) : value_text.f k s = some (txtS s) := by
  have h0 : value_text.f (s.size + 10) s = some (txtGo s (s.size + 10) 1 []) := by
    unfold value_text.f
    rw [if_pos ⟨by omega, by omega⟩]
    exact text_q s hs s.size (s.size + 10) 1 [] (by omega) (by omega)
  have ind : ∀ m i acc, i ≤ s.size → s.size - i < m → txtGo s (m + 1) i acc = txtGo s m i acc := by
    intro m
    induction m with
    | zero => intro i acc h1 h2; omega
    | succ m ih =>
      intro i acc h1 h2
      have e1 := text_q s hs 0 (m + 1) i acc h1 h2
      have e2 := text_q s hs 0 (m + 1 + 1) i acc h1 (by omega)
      have e3 := value_text.mono_go 10 (m + 1) (s.extract i s.size) acc _ e1
      have e4 := text_q s hs 1 (m + 1 + 1) i acc h1 (by omega)
      exact Option.some.inj (e4.symm.trans e3)
  have inds : ∀ n, txtGo s (s.size + 1 + n) 1 [] = txtGo s (s.size + 1) 1 [] := by
    intro n
    induction n with
    | zero => rfl
    | succ n ih => rw [← ih]; exact ind (s.size + 1 + n) 1 [] (by omega) (by omega)
  have e := inds 9
  rw [show s.size + 1 + 9 = s.size + 10 by omega] at e
  rw [e] at h0
  exact at_rounds (fun k => value_text.mono s k) hk h0
theorem b0_at (s : ByteArray) : bt s 0 = (byt s.data.toList 0 : Int) := btq s 0
end Go.Proofs.YtkdndabpaajkaaaGreatDoor.U8
namespace Go.Proofs.YtkdndabpaajkaaaGreatDoor.U8
open Go.RowKit Go.Proofs.YtkdndabpaajkaaaGreatDoor.A Go.Proofs.YtkdndabpaajkaaaGreatDoorW.PrintWords Go.Proofs.YtkdndabpaajkaaaGreatDoorW.PrintLast Go.Lib
set_option linter.unusedVariables false
set_option linter.unusedSimpArgs false
theorem hq_pair (s : ByteArray) (i k : Nat) (xs : List Int) (hs : s.size < 1000000) (hl : i + 2 ≤ s.size) (hx : xs.length ≤ i) (v0 : 0 ≤ hexV (byt s.data.toList i)) (v1 : 0 ≤ hexV (byt s.data.toList (i + 1))) :
    value_bytes.j2 (k + 2) (s.extract i s.size) xs false = value_bytes.l0 (k + 1) (s.extract (i + 2) s.size) (xs ++ [(16 * hexV (byt s.data.toList i) + hexV (byt s.data.toList (i + 1))) % 256]) := by
  have hz : (s.extract i s.size).size = s.size - i := by rw [ByteArray.size_extract]; omega
  rw [show k + 2 = k + 1 + 1 by omega, value_bytes.j2]
  simp only [Bool.false_eq_true, if_false]
  rw [if_pos (by omega), bt_ext0, digit_q _ (byt_lt _ _), Option.bind_some]
  rw [if_pos (by omega), bt_ext1, digit_q _ (byt_lt _ _), Option.bind_some]
  rw [if_pos (by omega), if_pos (by omega), ext_ext, or16 _ _ ⟨v0, (hexV_lt _).2⟩ ⟨v1, (hexV_lt _).2⟩]
theorem hq_end (s : ByteArray) (k : Nat) (xs : List Int) (i : Nat) (hi : i = s.size) : value_bytes.l0 (k + 2) (s.extract i s.size) xs = some (0, 0, ⟨#[]⟩, ⟨#[]⟩, 3) := by
  have hz : (s.extract i s.size).size = 0 := by rw [ByteArray.size_extract]; omega
  rw [value_bytes.l0, if_pos ((toList_nil _).2 hz), value_bytes.j1]
  simp only [Bool.false_eq_true, if_false]
  rw [if_pos ((toList_nil _).2 hz)]
theorem hq_quote (s : ByteArray) (k : Nat) (xs : List Int) (i : Nat) (hs : s.size < 1000000) (hi : i < s.size) (hq : byt s.data.toList i = 39) :
    value_bytes.l0 (k + 2) (s.extract i s.size) xs = some (if xs.length > 200 then (0, 0, ⟨#[]⟩, ⟨#[]⟩, 2) else (4, 0, strOfNums xs, s.extract (i + 1) s.size, 0)) := by
  have hz : (s.extract i s.size).size = s.size - i := by rw [ByteArray.size_extract]; omega
  generalize hR : (if xs.length > 200 then ((0, 0, ⟨#[]⟩, ⟨#[]⟩, 2) : Int × Int × ByteArray × ByteArray × Int) else (4, 0, strOfNums xs, s.extract (i + 1) s.size, 0)) = R
  rw [value_bytes.l0, if_neg (hx_ne s i hi), if_pos (by omega), bt_ext0, hq, value_bytes.j1]
  rw [show (((39 : Nat) : Int) != 39) = false from rfl]
  simp only [Bool.false_eq_true, if_false]
  rw [if_neg (hx_ne s i hi)]
  by_cases h200 : xs.length > 200
  · have h2 : (xs.length : Int) > 200 := by omega
    rw [if_pos h2, ← hR, if_pos h200]
  · have h2 : ¬ (xs.length : Int) > 200 := by omega
    rw [if_neg h2, if_pos (by omega), ext_ext, ← hR, if_neg h200]
theorem hq_bad (s : ByteArray) (k : Nat) (xs : List Int) (i : Nat) (hs : s.size < 1000000) (hi : i < s.size) (hq : byt s.data.toList i ≠ 39)
    (hb : s.size < i + 2 ∨ hexV (byt s.data.toList i) < 0 ∨ hexV (byt s.data.toList (i + 1)) < 0) :
    value_bytes.l0 (k + 4) (s.extract i s.size) xs = some (0, 0, ⟨#[]⟩, ⟨#[]⟩, 3) := by
  have hz : (s.extract i s.size).size = s.size - i := by rw [ByteArray.size_extract]; omega
  have g0 := byt_lt s.data.toList i
  have g1 := byt_lt s.data.toList (i + 1)
  rw [show k + 4 = k + 3 + 1 by omega, value_bytes.l0, if_neg (hx_ne s i hi), if_pos (by omega), bt_ext0, show k + 3 = k + 2 + 1 by omega, value_bytes.j1]
  rw [show (((byt s.data.toList i : Nat) : Int) != 39) = true by rw [bne_iff_ne]; omega]
  simp only [if_true]
  rw [bt_ext0, bt_ext1, digit_q _ g0, digit_q _ g1, show k + 2 = k + 1 + 1 by omega, hx_j2q]
  simp only [Option.bind_some]
  by_cases hl : s.size < i + 2
  · rw [if_pos (by omega)]
  by_cases d0 : hexV (byt s.data.toList i) < 0
  · rw [if_neg (by omega), if_pos (by omega), if_pos d0]
  · rw [if_neg (by omega), if_pos (by omega), if_neg d0, if_pos (by omega), show decide (hexV (byt s.data.toList (i + 1)) < 0) = true from decide_eq_true (by omega), hx_j2q]
theorem hq_on (s : ByteArray) (k : Nat) (xs : List Int) (i : Nat) (hs : s.size < 1000000) (hl : i + 2 ≤ s.size) (hx : xs.length ≤ i) (hq : byt s.data.toList i ≠ 39)
    (v0 : 0 ≤ hexV (byt s.data.toList i)) (v1 : 0 ≤ hexV (byt s.data.toList (i + 1))) :
    value_bytes.l0 (k + 4) (s.extract i s.size) xs = value_bytes.l0 (k + 1) (s.extract (i + 2) s.size) (xs ++ [(16 * hexV (byt s.data.toList i) + hexV (byt s.data.toList (i + 1))) % 256]) := by
  have hz : (s.extract i s.size).size = s.size - i := by rw [ByteArray.size_extract]; omega
  have g0 := byt_lt s.data.toList i
  have g1 := byt_lt s.data.toList (i + 1)
  rw [← hq_pair s i k xs hs hl hx v0 v1]
  rw [show k + 4 = k + 3 + 1 by omega, value_bytes.l0, if_neg (hx_ne s i (by omega)), if_pos (by omega), bt_ext0, show k + 3 = k + 2 + 1 by omega, value_bytes.j1]
  rw [show (((byt s.data.toList i : Nat) : Int) != 39) = true by rw [bne_iff_ne]; omega]
  simp only [if_true]
  rw [bt_ext0, bt_ext1, digit_q _ g0, digit_q _ g1]
  simp only [Option.bind_some]
  rw [if_neg (by omega), if_pos (by omega), if_neg (by omega), if_pos (by omega), show decide (hexV (byt s.data.toList (i + 1)) < 0) = false from decide_eq_false (by omega)]
theorem hexq_l0 (s : ByteArray) (hs : s.size < 1000000) (k : Nat) : ∀ (m i : Nat) (xs : List Int), i ≤ s.size → s.size - i ≤ m → xs.length ≤ i →
    value_bytes.l0 (k + 3 * m + 4) (s.extract i s.size) xs = some (hexGo s m i xs)
  | 0, i, xs, h1, h2, h5 => hq_end s (k + 3 * 0 + 2) xs i (by omega)
  | m + 1, i, xs, h1, h2, h5 => by
    rw [hexGo]
    by_cases hi : i = s.size
    · rw [if_pos (show s.size ≤ i by omega)]
      exact hq_end s (k + 3 * (m + 1) + 2) xs i hi
    rw [if_neg (show ¬ s.size ≤ i by omega)]
    by_cases hq : byt s.data.toList i = 39
    · rw [if_pos hq]
      exact hq_quote s (k + 3 * (m + 1) + 2) xs i hs (by omega) hq
    rw [if_neg hq]
    by_cases hb : s.size < i + 2 ∨ hexV (byt s.data.toList i) < 0 ∨ hexV (byt s.data.toList (i + 1)) < 0
    · rw [if_pos hb]
      exact hq_bad s (k + 3 * (m + 1)) xs i hs (by omega) hq hb
    · rw [if_neg hb]
      have e1 := hq_on s (k + 3 * (m + 1)) xs i hs (by omega) h5 hq (by omega) (by omega)
      have a := hexq_l0 s hs k m (i + 2) (xs ++ [(16 * hexV (byt s.data.toList i) + hexV (byt s.data.toList (i + 1))) % 256]) (by omega) (by omega) (by rw [List.length_append]; show xs.length + 1 ≤ i + 2; omega)
      rw [e1, show k + 3 * (m + 1) + 1 = k + 3 * m + 4 by omega]; exact a
theorem hexq_go (s : ByteArray) (hs : s.size < 1000000) (h2 : 2 ≤ s.size) (k : Nat) : value_bytes.f (k + 3 * s.size + 4) s = some (hexGo s s.size 2 []) := by
  unfold value_bytes.f
  rw [if_pos (by omega)]
  exact hexq_l0 s hs k s.size 2 [] h2 (by omega) (by simp)
end Go.Proofs.YtkdndabpaajkaaaGreatDoor.U8
namespace Go.Proofs.YtkdndabpaajkaaaGreatDoor.U8
open Go.RowKit Go.Proofs.YtkdndabpaajkaaaGreatDoor.A Go.Proofs.YtkdndabpaajkaaaGreatDoorW.PrintWords Go.Proofs.YtkdndabpaajkaaaGreatDoorW.PrintLast Go.Lib
set_option linter.unusedVariables false
set_option linter.unusedSimpArgs false
def intX (s : ByteArray) : ScanR := intR s (sg s) (dg (s.data.toList.drop (sg s))) (nv 0 ((s.data.toList.drop (sg s)).take (dg (s.data.toList.drop (sg s)))))
def scanX (s : ByteArray) : ScanR :=
  if s.size = 0 then errR 3
  else if byt s.data.toList 0 = 34 then txtS s
  else if preB s (⟨#[120, 39]⟩ : ByteArray) = true then hexGo s s.size 2 []
  else if byt s.data.toList 0 = 45 ∨ (48 ≤ byt s.data.toList 0 ∧ byt s.data.toList 0 ≤ 57) then intX s
  else boolS s
theorem scan_x (s : ByteArray) (hs : s.size < 100000) (k : Nat) (hk : 1000000 ≤ k) : value_Scan.f k s = some (scanX s) := by
  unfold scanX value_Scan.f
  by_cases h0 : s.toList = ([] : List UInt8)
  · rw [if_pos h0, if_pos ((toList_nil s).1 h0)]; rfl
  have hz : s.size ≠ 0 := fun h => h0 ((toList_nil s).2 h)
  have hp : 0 < (s.size : Int) := by omega
  rw [if_neg h0, if_pos hp, if_neg hz, b0_at]
  by_cases h34 : byt s.data.toList 0 = 34
  · rw [if_pos (by omega), if_pos h34, txt_q s (by omega) hz k (by omega), Option.bind_some]
  rw [if_neg (by omega), if_neg h34, pre_q, Option.bind_some]
  by_cases hx : preB s (⟨#[120, 39]⟩ : ByteArray) = true
  · rw [if_pos hx, if_pos hx, at_rounds (fun k => value_bytes.mono s k) (show 0 + 3 * s.size + 4 ≤ k by omega) (hexq_go s (by omega) (pre_size hx) 0), Option.bind_some]
  rw [if_neg hx, if_neg hx]
  obtain ⟨k, rfl⟩ : ∃ q, k = q + 10 := ⟨k - 10, by omega⟩
  by_cases hd : byt s.data.toList 0 = 45 ∨ (48 ≤ byt s.data.toList 0 ∧ byt s.data.toList 0 ≤ 57)
  · rw [if_pos hd]
    have e1 := int_q s (by omega) hz 0 _ (fun _ => rfl)
    have i1 : value_Scan.j0 (k + 10) s true = some (intX s) := by
      rw [show k + 10 = k + 9 + 1 by omega, value_Scan.j0, if_pos rfl, at_rounds (fun k => value_integer.mono s k) (show 0 + s.size + 2 ≤ k + 9 by omega) e1, Option.bind_some]
      rfl
    by_cases c45 : byt s.data.toList 0 = 45
    · rw [if_pos (by omega)]; exact i1
    · rw [if_neg (by omega), if_pos (by omega), show decide (((byt s.data.toList 0 : Nat) : Int) ≤ 57) = true from decide_eq_true (by omega)]; exact i1
  · rw [if_neg hd]
    have i1 : value_Scan.j0 (k + 10) s false = some (boolS s) := by
      rw [show k + 10 = k + 5 + 4 + 1 by omega, value_Scan.j0, if_neg (by decide), bool_q s (k + 5), Option.bind_some]
    rw [if_neg (by omega)]
    by_cases c48 : ((byt s.data.toList 0 : Nat) : Int) ≥ 48
    · rw [if_pos c48, show decide (((byt s.data.toList 0 : Nat) : Int) ≤ 57) = false from decide_eq_false (by omega)]; exact i1
    · rw [if_neg c48]; exact i1
end Go.Proofs.YtkdndabpaajkaaaGreatDoor.U8
namespace Go.Proofs.YtkdndabpaajkaaaGreatDoor.U8
open Go.RowKit Go.Proofs.YtkdndabpaajkaaaGreatDoor.A Go.Proofs.YtkdndabpaajkaaaGreatDoorW.PrintWords Go.Proofs.YtkdndabpaajkaaaGreatDoorW.PrintLast Go.Lib
set_option linter.unusedVariables false
set_option linter.unusedSimpArgs false
def allD (l : List UInt8) : Prop := ∀ b ∈ l, 48 ≤ b.toNat ∧ b.toNat ≤ 57
theorem dgb (d : Nat) (h : d < 10) : (UInt8.ofNat (48 + d)).toNat = 48 + d := by rw [UInt8.toNat_ofNat']; omega
theorem dd_all (u : Nat) : allD (decDigits u) := by
  induction u using Nat.strongRecOn with
  | _ u ih =>
    by_cases h : u < 10
    · rw [decDigits, dif_pos h]
      intro b hb
      rw [List.mem_singleton] at hb
      rw [hb, dgb u h]; omega
    · rw [decDigits, dif_neg h]
      intro b hb
      rcases List.mem_append.1 hb with hb | hb
      · exact ih (u / 10) (by omega) b hb
      · rw [List.mem_singleton] at hb
        rw [hb, dgb _ (by omega)]; omega
theorem nv_app : ∀ (l : List UInt8) (a : Nat) (b : UInt8), nv a (l ++ [b]) = dv (nv a l) b
  | [], a, b => rfl
  | c :: l, a, b => nv_app l (dv a c) b
theorem dd_nv (u : Nat) : nv 0 (decDigits u) = u := by
  induction u using Nat.strongRecOn with
  | _ u ih =>
    by_cases h : u < 10
    · rw [decDigits, dif_pos h]
      show dv 0 _ = u
      rw [dv_eq, dgb u h]; omega
    · rw [decDigits, dif_neg h, nv_app, ih (u / 10) (by omega), dv_eq, dgb _ (by omega)]; omega
theorem dd_len (u : Nat) : 1 ≤ (decDigits u).length := by rw [decDigits_length]; exact nDigits_pos u
theorem nd_le : ∀ (k u : Nat), u < 10 ^ (k + 1) → nDigits u ≤ k + 1
  | 0, u, h => by rw [nDigits_small (by simpa using h)]; omega
  | k + 1, u, h => by
    by_cases c : u < 10
    · rw [nDigits_small c]; omega
    · rw [nDigits_big c]
      have := nd_le k (u / 10) (by rw [Nat.pow_succ] at h; omega)
      omega
theorem dd_le (u : Nat) (h : u ≤ 9007199254740991) : (decDigits u).length ≤ 16 := by
  rw [decDigits_length]
  refine nd_le 15 u ?_
  have e : 10 ^ (15 + 1) = 10000000000000000 := by decide
  rw [e]; omega
theorem byt_app0 (a b : List UInt8) (h : 1 ≤ a.length) : byt (a ++ b) 0 = byt a 0 := by
  cases a with
  | nil => simp at h
  | cons x t => rfl
theorem dd_first (u : Nat) : (byt (decDigits u) 0 = 48 → u = 0) ∧ 48 ≤ byt (decDigits u) 0 ∧ byt (decDigits u) 0 ≤ 57 := by
  induction u using Nat.strongRecOn with
  | _ u ih =>
    by_cases h : u < 10
    · rw [decDigits, dif_pos h]
      show ((UInt8.ofNat (48 + u)).toNat = 48 → u = 0) ∧ 48 ≤ (UInt8.ofNat (48 + u)).toNat ∧ (UInt8.ofNat (48 + u)).toNat ≤ 57
      rw [dgb u h]; omega
    · rw [decDigits, dif_neg h, byt_app0 _ _ (dd_len _)]
      obtain ⟨i1, i2, i3⟩ := ih (u / 10) (by omega)
      exact ⟨fun e => by have := i1 e; omega, i2, i3⟩
theorem dg_app : ∀ (l r : List UInt8), allD l → dg r = 0 → dg (l ++ r) = l.length
  | [], r, h, hr => hr
  | b :: l, r, h, hr => by
    rw [List.cons_append, dg_pos b _ (h b (List.mem_cons_self ..)), dg_app l r (fun x hx => h x (List.mem_cons_of_mem _ hx)) hr]; rfl
theorem dg_all : ∀ l : List UInt8, allD (l.take (dg l))
  | [] => fun b hb => by simp [dg] at hb
  | b :: l => by
    by_cases h : 48 ≤ b.toNat ∧ b.toNat ≤ 57
    · rw [dg_pos b l h, List.take_succ_cons]
      intro x hx
      rcases List.mem_cons.1 hx with rfl | hx
      · exact h
      · exact dg_all l x hx
    · rw [dg_neg b l h]
      intro x hx; simp at hx
theorem dd_nvs : ∀ (l : List UInt8) (a : Nat), 1 ≤ a → allD l → decDigits (nv a l) = decDigits a ++ l
  | [], a, h, hl => by rw [List.append_nil]; rfl
  | b :: l, a, h, hl => by
    have hb := hl b (List.mem_cons_self ..)
    rw [nv_cons, dd_nvs l (dv a b) (by rw [dv_eq]; omega) (fun x hx => hl x (List.mem_cons_of_mem _ hx))]
    have e : decDigits (dv a b) = decDigits a ++ [b] := by
      rw [decDigits, dif_neg (by rw [dv_eq]; omega), dv_eq, show (a * 10 + (b.toNat - 48)) / 10 = a by omega, show 48 + (a * 10 + (b.toNat - 48)) % 10 = b.toNat by omega, UInt8.ofNat_toNat]
    rw [e, List.append_assoc]; rfl
theorem dd_back (l : List UInt8) (hl : allD l) (h1 : 1 ≤ l.length) (h2 : byt l 0 = 48 → l.length = 1) : decDigits (nv 0 l) = l := by
  cases l with
  | nil => simp at h1
  | cons b t =>
    have hb := hl b (List.mem_cons_self ..)
    have e : dv 0 b = b.toNat - 48 := by rw [dv_eq]; omega
    have e1 : decDigits (dv 0 b) = [b] := by
      rw [e, decDigits, dif_pos (by omega), show 48 + (b.toNat - 48) = b.toNat by omega, UInt8.ofNat_toNat]
    by_cases h48 : b.toNat = 48
    · have : t = [] := List.eq_nil_of_length_eq_zero (by have := h2 h48; simp at this; simp [this])
      subst this
      exact e1
    · rw [nv_cons, dd_nvs t (dv 0 b) (by rw [e]; omega) (fun x hx => hl x (List.mem_cons_of_mem _ hx)), e1]; rfl
theorem itoa_neg' (n : Int) (h : n < 0) : itoa n = 45 :: decDigits n.natAbs := by unfold itoa; rw [if_pos h]
theorem itoa_pos' (n : Int) (h : ¬ n < 0) : itoa n = decDigits n.toNat := by unfold itoa; rw [if_neg h]
theorem int_fwd (s : ByteArray) (n : Int) (h0 : -9007199254740991 ≤ n) (h1 : n ≤ 9007199254740991) (r : List UInt8) (hr : dg r = 0) (hs : s.data.toList = itoa n ++ r) :
    intX s = (1, n, ⟨#[]⟩, s.extract (itoa n).length s.size, 0) := by
  unfold intX intR
  by_cases hn : n < 0
  · have hsg : sg s = 1 := by
      unfold sg
      rw [hs, itoa_neg' n hn, if_pos (by rfl)]
    have hd : s.data.toList.drop 1 = decDigits n.natAbs ++ r := by rw [hs, itoa_neg' n hn]; rfl
    have hl := dd_len n.natAbs
    have hl2 := dd_le n.natAbs (by omega)
    have hf := dd_first n.natAbs
    have hb : byt s.data.toList 1 = byt (decDigits n.natAbs) 0 := by
      rw [← byt_app0 _ r hl, ← hd, byt_drop]
    rw [hsg, hd, dg_app _ _ (dd_all _) hr, List.take_left' rfl, dd_nv, if_neg (by omega), if_neg (fun e => by have := hf.1 (by rw [← hb]; exact e.1); omega), if_neg (by omega), if_pos rfl, itoa_neg' n hn, List.length_cons, show (-((n.natAbs : Nat) : Int)) = n by omega, Nat.add_comm]
  · have hl := dd_len n.toNat
    have hl2 := dd_le n.toNat (by omega)
    have hf := dd_first n.toNat
    rw [itoa_pos' n hn] at hs ⊢
    have hb : byt s.data.toList 0 = byt (decDigits n.toNat) 0 := by rw [hs, byt_app0 _ r hl]
    have hsg : sg s = 0 := by
      unfold sg
      rw [if_neg (by omega)]
    have hd : s.data.toList.drop 0 = decDigits n.toNat ++ r := by rw [hs]; rfl
    have hz : byt s.data.toList 0 = 48 → (decDigits n.toNat).length = 1 := fun e => by
      rw [hf.1 (by rw [← hb]; exact e)]
      rw [decDigits_length, nDigits_small (by omega)]
    rw [hsg, hd, dg_app _ _ (dd_all _) hr, List.take_left' rfl, dd_nv, if_neg (by omega), if_neg (fun e => by have := hz e.1; omega), if_neg (by omega), if_neg (by omega), show ((n.toNat : Nat) : Int) = n by omega, Nat.zero_add]
theorem int_back (s : ByteArray) (K N : Int) (S rest : ByteArray) (h : intX s = (K, N, S, rest, 0)) : K = 1 ∧ -9007199254740991 ≤ N ∧ N ≤ 9007199254740991 ∧ S = ⟨#[]⟩ ∧ s.data.toList = itoa N ++ rest.data.toList := by
  unfold intX intR at h
  have hall := dg_all (s.data.toList.drop (sg s))
  have hle := dg_le (s.data.toList.drop (sg s))
  have hsg : (sg s = 1 ∧ byt s.data.toList 0 = 45) ∨ (sg s = 0 ∧ byt s.data.toList 0 ≠ 45) := by
    unfold sg
    by_cases c : byt s.data.toList 0 = 45
    · rw [if_pos c]; exact .inl ⟨rfl, c⟩
    · rw [if_neg c]; exact .inr ⟨rfl, c⟩
  by_cases c0 : dg (s.data.toList.drop (sg s)) = 0
  · rw [if_pos c0] at h; simp at h
  rw [if_neg c0] at h
  by_cases c1 : byt s.data.toList (sg s) = 48 ∧ (1 < dg (s.data.toList.drop (sg s)) ∨ sg s = 1)
  · rw [if_pos c1] at h; simp at h
  rw [if_neg c1] at h
  generalize hcnt : dg (s.data.toList.drop (sg s)) = cnt at *
  generalize htk : (s.data.toList.drop (sg s)).take cnt = t at *
  by_cases c2 : 16 < cnt ∨ 9007199254740991 < nv 0 t
  · rw [if_pos c2] at h; simp at h
  rw [if_neg c2] at h
  simp only [Prod.mk.injEq] at h
  obtain ⟨rfl, hN, rfl, rfl, _⟩ := h
  have htl : t.length = cnt := by rw [← htk, List.length_take]; omega
  have hb0 : byt t 0 = byt s.data.toList (sg s) := by rw [← htk, byt_take _ _ _ (by omega), byt_drop]; rfl
  have hdd : decDigits (nv 0 t) = t := dd_back t hall (by omega) (fun e => by
    have : ¬ (1 < cnt ∨ sg s = 1) := fun x => c1 ⟨by rw [← hb0]; exact e, x⟩
    omega)
  refine ⟨rfl, by split at hN <;> omega, by split at hN <;> omega, rfl, ?_⟩
  rw [extract_toList, ← List.drop_drop]
  have hsp : t ++ (s.data.toList.drop (sg s)).drop cnt = s.data.toList.drop (sg s) := by rw [← htk, List.take_append_drop]
  rcases hsg with ⟨e1, e2⟩ | ⟨e1, e2⟩
  · rw [e1] at hsp hN hb0 c1 hcnt
    rw [if_pos rfl] at hN
    have hnz : nv 0 t ≠ 0 := fun e => by
      have := (dd_first (nv 0 t))
      rw [hdd] at this
      have e48 : byt t 0 = 48 := by
        rw [← hdd, e, decDigits, dif_pos (by omega)]; rfl
      exact c1 ⟨by rw [← hb0]; exact e48, .inr rfl⟩
    rw [e1, ← hN, itoa_neg' _ (by omega), Int.natAbs_neg, Int.natAbs_natCast, hdd, List.cons_append, hsp]
    have hne : 0 < s.data.toList.length := by rw [List.length_drop] at hle; omega
    obtain ⟨b, e, hb⟩ := drop_at s.data.toList 0 hne
    rw [List.drop_zero] at e
    rw [e2] at hb
    have : b = 45 := UInt8.toNat_inj.1 (by rw [← hb]; rfl)
    rw [this] at e
    exact e
  · rw [e1] at hsp hN
    rw [if_neg (by omega)] at hN
    rw [e1, ← hN, itoa_pos' _ (by omega), Int.toNat_natCast, hdd, hsp, List.drop_zero]
end Go.Proofs.YtkdndabpaajkaaaGreatDoor.U8
namespace Go.Proofs.YtkdndabpaajkaaaGreatDoor.U8
open Go.RowKit Go.Proofs.YtkdndabpaajkaaaGreatDoor.A Go.Proofs.YtkdndabpaajkaaaGreatDoorW.PrintWords Go.Proofs.YtkdndabpaajkaaaGreatDoorW.PrintLast Go.Lib
set_option linter.unusedVariables false
set_option linter.unusedSimpArgs false
def hexL : List UInt8 → List Int
  | [] => []
  | b :: l => hexd ((b.toNat : Int) / 16) :: hexd ((b.toNat : Int) % 16) :: hexL l
theorem hexL_len : ∀ l, (hexL l).length = 2 * l.length
  | [] => rfl
  | b :: l => by simp only [hexL, List.length_cons, hexL_len l]; omega
theorem and15 (b : Nat) (h : b < 256) : Go.bits .and .u8 (b : Int) 15 = ((b % 16 : Nat) : Int) := by
  have all : ∀ n : Fin 256, Go.bits .and .u8 (n.val : Int) 15 = ((n.val % 16 : Nat) : Int) := by decide +kernel
  exact all ⟨b, h⟩
theorem hexdig (d : Nat) (h : d < 16) : bt (⟨#[48, 49, 50, 51, 52, 53, 54, 55, 56, 57, 97, 98, 99, 100, 101, 102]⟩ : ByteArray) (d : Int) = hexd (d : Int) := by
  have all : ∀ n : Fin 16, bt (⟨#[48, 49, 50, 51, 52, 53, 54, 55, 56, 57, 97, 98, 99, 100, 101, 102]⟩ : ByteArray) (n.val : Int) = hexd (n.val : Int) := by decide +kernel
  exact all ⟨d, h⟩
theorem hexed_l0 (s : ByteArray) (hs : s.size < 1000000) (k : Nat) : ∀ (m i : Nat) (xs : List Int), i ≤ s.size → s.size - i ≤ m → xs.length ≤ 2 + 2 * i → value_hexed.l0 (k + m + 1) s xs (s.size : Int) (i : Int) = some (strOfNums (xs ++ hexL (s.data.toList.drop i) ++ [39]))
  | 0, i, xs, h1, h2, h3 => by
    have e : s.data.toList.drop i = [] := List.drop_of_length_le (by rw [← size_len]; omega)
    rw [show k + 0 + 1 = k + 1 by omega, value_hexed.l0, if_neg (by omega), if_pos (by omega), e, hexL, List.append_nil]
  | m + 1, i, xs, h1, h2, h3 => by
    rw [show k + (m + 1) + 1 = k + m + 1 + 1 by omega, value_hexed.l0]
    by_cases hi : i = s.size
    · have e : s.data.toList.drop i = [] := List.drop_of_length_le (by rw [← size_len]; omega)
      rw [if_neg (by omega), if_pos (by omega), e, hexL, List.append_nil]
    · obtain ⟨b, e, hb⟩ := drop_byt s i (by omega)
      have g := byt_lt s.data.toList i
      rw [if_pos (by omega), if_pos (by omega), if_pos (by omega), btq s i, and15 _ g, show ((byt s.data.toList i : Nat) : Int) / 16 = ((byt s.data.toList i / 16 : Nat) : Int) by omega, if_pos (by omega), if_pos (by omega), if_pos (by omega), if_pos (by omega), Option.bind_some, hexdig _ (by omega), hexdig _ (by omega)]
      rw [if_pos (by show xs.length + 2 < _; omega), wa1 i (by omega), hexed_l0 s hs k m (i + 1) _ (by omega) (by omega) (by rw [List.length_append]; show xs.length + 2 ≤ _; omega)]
      rw [e, hexL, hb, show (((b.toNat / 16 : Nat)) : Int) = (b.toNat : Int) / 16 by omega, show (((b.toNat % 16 : Nat)) : Int) = (b.toNat : Int) % 16 by omega]
      simp only [List.append_assoc, List.cons_append, List.nil_append]
theorem hexed_q (s : ByteArray) (hs : s.size < 1000000) (k : Nat) (hk : s.size + 1 ≤ k) : value_hexed.f k s = some (strOfNums ([120, 39] ++ hexL s.data.toList ++ [39])) := by
  have h := hexed_l0 s hs 0 s.size 0 [120, 39] (by omega) (by omega) (by simp)
  rw [show 0 + s.size + 1 = s.size + 1 by omega, List.drop_zero] at h
  have h0 : value_hexed.f (s.size + 1) s = some (strOfNums ([120, 39] ++ hexL s.data.toList ++ [39])) := by
    unfold value_hexed.f
    exact h
  exact at_rounds (fun k => value_hexed.mono s k) hk h0
def escL : List Nat → List UInt8
  | [] => []
  | c :: cs => (escB (c : Int)).data.toList ++ escL cs
theorem quoted_runes (s : ByteArray) : ∀ (m i : Nat), i ≤ s.size → s.size - i ≤ m → validF m (s.data.toList.drop i) = true → quotedFrom s m i = escL (runesF m (s.data.toList.drop i))
  | 0, i, h1, h2, hv => by
    rw [quotedFrom]; rfl
  | m + 1, i, h1, h2, hv => by
    have hl : (s.data.toList.drop i).length = s.size - i := by rw [List.length_drop, ← size_len]
    rw [quotedFrom, runesF]
    by_cases hi : i = s.size
    · have e : s.data.toList.drop i = [] := List.drop_of_length_le (by rw [← size_len]; omega)
      rw [if_neg (by omega), e]; rfl
    · have hne : ¬ ((s.data.toList.drop i).isEmpty = true) := by
        intro h; rw [List.isEmpty_iff] at h; rw [h] at hl; simp at hl; omega
      have hw := dec_width (s.data.toList.drop i)
      rw [validF, if_neg hne] at hv
      by_cases hz : (dec (s.data.toList.drop i)).2 = 0
      · rw [if_pos hz] at hv; cases hv
      · rw [if_neg hz, List.drop_drop] at hv
        rw [if_pos (by omega), if_neg hne, if_neg hz, decode_dec s i (by omega) hz, escL, quoted_runes s m _ (by omega) (by omega) hv, List.drop_drop]
theorem quoted_q (s : ByteArray) (hs : s.size < 1000000) (hv : validD s.data.toList = true) : value_quoted.f s = some ⟨(34 :: (escL (runesOf s.data.toList) ++ [34])).toArray⟩ := by
  unfold value_quoted.f
  have hl : s.data.toList.length = s.size := (size_len s).symm
  rw [validD_validF, hl] at hv
  rw [if_pos (by omega), quoted_runes s s.size 0 (by omega) (by omega) (by rw [List.drop_zero]; exact hv), List.drop_zero]
  unfold runesOf
  rw [hl]
def showL (a0 a1 : Int) (a2 : ByteArray) : List UInt8 :=
  if a0 = 1 then itoa a1 else if a0 = 2 then 34 :: (escL (runesOf a2.data.toList) ++ [34])
  else if a0 = 3 then (if a1 = 1 then [116, 114, 117, 101] else [102, 97, 108, 115, 101])
  else Go.Lib.bytesOf ([120, 39] ++ hexL a2.data.toList ++ [39])
end Go.Proofs.YtkdndabpaajkaaaGreatDoor.U8
namespace Go.Proofs.YtkdndabpaajkaaaGreatDoor.U8
open Go.RowKit Go.Proofs.YtkdndabpaajkaaaGreatDoor.A Go.Proofs.YtkdndabpaajkaaaGreatDoorW.PrintWords Go.Proofs.YtkdndabpaajkaaaGreatDoorW.PrintLast Go.Lib
set_option linter.unusedVariables false
set_option linter.unusedSimpArgs false
theorem ext_drop {s : ByteArray} {i : Nat} {a b : List UInt8} (h : s.data.toList.drop i = a ++ b) (hi : i ≤ s.size) : s.data.toList.drop (i + a.length) = b ∧ i + a.length ≤ s.size := by
  have hl := congrArg List.length h
  rw [List.length_drop, ← size_len, List.length_append] at hl
  refine ⟨?_, by omega⟩
  rw [← List.drop_drop, h, List.drop_left]
theorem byt_of_drop {s : ByteArray} {i : Nat} {l : List UInt8} (h : s.data.toList.drop i = l) : byt s.data.toList i = byt l 0 := by
  rw [← h, byt_drop]; rfl
theorem escB_pl (c : Nat) (h : okC c) (hn : ¬ isCtl (c : Int) = true) : (escB (c : Int)).data.toList = encodeRune (c : Int) ∧ 32 ≤ c ∧ c ≠ 127 ∧ c ≠ 34 ∧ c ≠ 92 := by
  unfold isCtl at hn
  simp only [Bool.or_eq_true, decide_eq_true_eq, beq_iff_eq] at hn
  refine ⟨?_, by omega, by omega, by omega, by omega⟩
  have eb : escB (c : Int) = Utf8.encode (c : Int) := by
    unfold escB
    rw [if_neg (by omega), if_neg (by omega), if_neg (by omega), if_neg (by omega), if_neg (by omega)]
  rw [eb, enc_rune c h]
theorem txt_fwd (s : ByteArray) (hs : s.size < 1000000) (r : List UInt8) : ∀ (cs : List Nat) (m i : Nat) (acc : List UInt8), (∀ c ∈ cs, okC c) → i ≤ s.size → s.size - i < m → s.data.toList.drop i = escL cs ++ 34 :: r → acc.length + (encL cs).length ≤ 200 →
    ∃ j, s.data.toList.drop j = r ∧ j ≤ s.size ∧ txtGo s m i acc = (2, 0, ⟨(acc ++ encL cs).toArray⟩, s.extract j s.size, 0)
  | [], m, i, acc, hc, h1, h2, h3, h4 => by
    obtain ⟨m, rfl⟩ : ∃ q, m = q + 1 := ⟨m - 1, by omega⟩
    have hb : byt s.data.toList i = 34 := by rw [byt_of_drop h3]; rfl
    obtain ⟨e1, e2⟩ := ext_drop (a := [34]) (b := r) (by rw [h3]; rfl) h1
    have hlt : ¬ s.size ≤ i := by simp at e2; omega
    refine ⟨i + 1, e1, e2, ?_⟩
    rw [txtGo, if_neg hlt, if_pos hb, if_neg (by omega)]
    simp [encL]
  | c :: cs, m, i, acc, hc, h1, h2, h3, h4 => by
    obtain ⟨m, rfl⟩ : ∃ q, m = q + 1 := ⟨m - 1, by omega⟩
    rw [escL, List.append_assoc] at h3
    have ho := hc c (List.mem_cons_self ..)
    obtain ⟨e1, e2⟩ := ext_drop h3 h1
    rw [encL, List.length_append] at h4
    by_cases hctl : isCtl (c : Int) = true
    · have hr := isCtl_lt _ hctl
      have hpos := escB_pos (c : Int) (by omega) (by omega)
      have hz : 0 < (escB (c : Int)).data.toList.length := by rw [← size_len]; exact hpos
      have hb : byt s.data.toList i = 92 := by
        rw [byt_of_drop h3, ← isCtl_byte0 _ hctl]
        match hm : (escB (c : Int)).data.toList with
        | [] => rw [hm] at hz; simp at hz
        | b :: t => rfl
      have hp : preB (s.extract i s.size) (escB (c : Int)) = true := by
        rw [pre_iff, extract_toList, h3, size_len (escB (c : Int)), List.take_left]
        refine ⟨?_, rfl⟩
        rw [ByteArray.size_extract]; omega
      have hct := ctl_of (s.extract i s.size) (c : Int) hctl hp
      rw [Int.toNat_natCast] at hct
      obtain ⟨j, j1, j2, j3⟩ := txt_fwd s hs r cs m (i + (escB (c : Int)).size) (acc ++ encodeRune (c : Int)) (fun x hx => hc x (List.mem_cons_of_mem _ hx)) (by rw [size_len]; exact e2) (by omega) (by rw [size_len]; exact e1) (by rw [List.length_append]; omega)
      refine ⟨j, j1, j2, ?_⟩
      rw [txtGo, if_neg (by rw [← size_len] at e2; omega), if_neg (by omega), if_pos hb, hct]
      dsimp only
      rw [j3, List.append_assoc]
      rfl
    · obtain ⟨ee, g1, g2, g3, g4⟩ := escB_pl c ho hctl
      rw [ee] at h3 e1 e2
      have hd : dec (s.data.toList.drop i) = (c, (encodeRune (c : Int)).length) := by rw [h3]; exact dec_encode c ho _
      have hp := enc_pos c
      have n34 : byt s.data.toList i ≠ 34 := fun e => g3 (enc_byt0 c ho _ 34 (by omega) (by rw [← h3, byt_drop]; exact e))
      have n92 : byt s.data.toList i ≠ 92 := fun e => g4 (enc_byt0 c ho _ 92 (by omega) (by rw [← h3, byt_drop]; exact e))
      obtain ⟨j, j1, j2, j3⟩ := txt_fwd s hs r cs m (i + (encodeRune (c : Int)).length) (acc ++ encodeRune (c : Int)) (fun x hx => hc x (List.mem_cons_of_mem _ hx)) e2 (by omega) e1 (by rw [List.length_append]; omega)
      refine ⟨j, j1, j2, ?_⟩
      rw [txtGo, if_neg (by omega), if_neg n34, if_neg n92, hd]
      dsimp only
      rw [if_neg (by omega), j3, List.append_assoc]
      rfl
theorem txt_back (s : ByteArray) (hs : s.size < 1000000) : ∀ (m i : Nat) (acc : List UInt8) (K N : Int) (S rest : ByteArray), i ≤ s.size → txtGo s m i acc = (K, N, S, rest, 0) →
    ∃ cs, (∀ c ∈ cs, okC c) ∧ K = 2 ∧ N = 0 ∧ S.data.toList = acc ++ encL cs ∧ S.size ≤ 200 ∧ s.data.toList.drop i = escL cs ++ 34 :: rest.data.toList
  | 0, i, acc, K, N, S, rest, h1, h => by
    rw [txtGo, errR] at h
    simp at h
  | m + 1, i, acc, K, N, S, rest, h1, h => by
    have hl : (s.data.toList.drop i).length = s.size - i := by rw [List.length_drop, ← size_len]
    rw [txtGo] at h
    by_cases hi : s.size ≤ i
    · rw [if_pos hi, errR] at h; simp at h
    rw [if_neg hi] at h
    by_cases h34 : byt s.data.toList i = 34
    · rw [if_pos h34] at h
      by_cases h200 : acc.length > 200
      · rw [if_pos h200, errR] at h; simp at h
      · rw [if_neg h200] at h
        simp only [Prod.mk.injEq] at h
        obtain ⟨rfl, rfl, rfl, rfl, _⟩ := h
        refine ⟨[], fun c hc => by simp at hc, rfl, rfl, by simp [encL], by rw [mk_size]; omega, ?_⟩
        obtain ⟨b, e, hb⟩ := drop_byt s i (by omega)
        rw [e, extract_toList]
        have : b = 34 := UInt8.toNat_inj.1 (by rw [← hb, h34]; rfl)
        rw [this]; rfl
    rw [if_neg h34] at h
    by_cases h92 : byt s.data.toList i = 92
    · rw [if_pos h92] at h
      cases hc : ctl (s.extract i s.size) with
      | none => rw [hc] at h; simp [errR] at h
      | some c =>
        rw [hc] at h
        dsimp only at h
        obtain ⟨c1, c2, c3⟩ := ctl_lt _ _ hc
        have hz := ctl_size _ _ hc
        have hsz : (s.extract i s.size).size = s.size - i := by rw [ByteArray.size_extract]; omega
        obtain ⟨cs, k1, k2, k3, k4, k5, k6⟩ := txt_back s hs m _ _ K N S rest (by omega) h
        refine ⟨c :: cs, ?_, k2, k3, by rw [k4, encL, List.append_assoc], k5, ?_⟩
        · intro x hx
          rcases List.mem_cons.1 hx with rfl | hx
          · unfold okC; omega
          · exact k1 x hx
        · have hp := ((pre_iff _ _).1 c3).2
          rw [extract_toList] at hp
          rw [escL, List.append_assoc, ← k6, ← hp, ← List.drop_drop, List.take_append_drop]
    · rw [if_neg h92] at h
      by_cases hd : (dec (s.data.toList.drop i)).2 = 0 ∨ (dec (s.data.toList.drop i)).1 < 32 ∨ (dec (s.data.toList.drop i)).1 = 127
      · rw [if_pos hd, errR] at h; simp at h
      · rw [if_neg hd] at h
        have h0 : (dec (s.data.toList.drop i)).2 ≠ 0 := fun e => hd (.inl e)
        obtain ⟨_, ho, hen, _⟩ := dec_enc _ h0
        have hw := dec_width (s.data.toList.drop i)
        obtain ⟨cs, k1, k2, k3, k4, k5, k6⟩ := txt_back s hs m _ _ K N S rest (by omega) h
        have b0 : byt (s.data.toList.drop i) 0 = byt s.data.toList i := by rw [byt_drop]; rfl
        have hnc : ¬ isCtl ((dec (s.data.toList.drop i)).1 : Int) = true := by
          intro hcc
          have hr := isCtl_lt _ hcc
          have e0 := dec_byte0 _ h0 (by omega)
          unfold isCtl at hcc
          simp only [Bool.or_eq_true, decide_eq_true_eq, beq_iff_eq] at hcc
          omega
        obtain ⟨ee, _⟩ := escB_pl _ ho hnc
        refine ⟨(dec (s.data.toList.drop i)).1 :: cs, ?_, k2, k3, by rw [k4, encL, List.append_assoc], k5, ?_⟩
        · intro x hx
          rcases List.mem_cons.1 hx with rfl | hx
          · exact ho
          · exact k1 x hx
        · rw [escL, List.append_assoc, ← k6, ee, hen, ← List.drop_drop, List.take_append_drop]
end Go.Proofs.YtkdndabpaajkaaaGreatDoor.U8
namespace Go.Proofs.YtkdndabpaajkaaaGreatDoor.U8
open Go.RowKit Go.Proofs.YtkdndabpaajkaaaGreatDoor.A Go.Proofs.YtkdndabpaajkaaaGreatDoorW.PrintWords Go.Proofs.YtkdndabpaajkaaaGreatDoorW.PrintLast Go.Lib
set_option linter.unusedVariables false
set_option linter.unusedSimpArgs false
theorem nv_ge : ∀ (l : List UInt8) (a : Nat), a ≤ nv a l
  | [], a => Nat.le_refl _
  | b :: l, a => by
    have := nv_ge l (dv a b)
    rw [dv_eq] at this
    rw [nv_cons, dv_eq]; omega
theorem number_l0 (s : ByteArray) (hs : s.size ≤ 13) : ∀ (m i : Nat) (acc : Int), i + m = s.size → ∃ n, Evn (fun k => event_number.l0 k s acc (s.size : Int) (i : Int)) n
  | 0, i, acc, h => ⟨acc, Evn.step (fun k => event_number.l0.eq_2 ..) (Evn.neg (by omega) (Evn.ret _))⟩
  | m + 1, i, acc, h => by
    have hw : wrap64 ((i : Int) + 1) = ((i + 1 : Nat) : Int) := by unfold wrap64; omega
    by_cases h1 : bt s i < 48
    · exact ⟨0, Evn.step (fun k => event_number.l0.eq_2 ..) (Evn.pos (by omega) (Evn.pos (by omega) (Evn.pos (by omega) (Evn.pos h1 (Evn.ret _)))))⟩
    by_cases h2 : bt s i > 57
    · exact ⟨0, Evn.step (fun k => event_number.l0.eq_2 ..) (Evn.pos (by omega) (Evn.pos (by omega) (Evn.pos (by omega) (Evn.neg h1 (Evn.pos h2 (Evn.ret _))))))⟩
    obtain ⟨n, hn⟩ := number_l0 s hs m (i + 1) (wrap64 ((wrap64 (10 * acc)) + (((bt s i) - 48) % 256))) (by omega)
    refine ⟨n, Evn.step (fun k => event_number.l0.eq_2 ..) (Evn.pos (by omega) (Evn.pos (by omega) (Evn.pos (by omega) (Evn.neg h1 (Evn.neg h2 ?_)))))⟩
    rw [hw]
    exact hn
theorem number_ev (s : ByteArray) : ∃ n, Evn (fun k => event_number.f k s) n := by
  by_cases h : (s.size : Int) > 13
  · exact ⟨0, Evn.pos h (Evn.ret _)⟩
  · obtain ⟨n, hn⟩ := number_l0 s (by omega) s.size 0 0 (by omega)
    exact ⟨n, Evn.neg h hn⟩
theorem number_fwd_l0 (s : ByteArray) (hs : s.size ≤ 13) : ∀ (l : List UInt8) (i a : Nat), s.data.toList.drop i = l → i + l.length = s.size → allD l → nv a l < 10000000000000 → Evn (fun k => event_number.l0 k s (a : Int) (s.size : Int) (i : Int)) (nv a l : Int)
  | [], i, a, hd, hl, hD, hb => by
    have hl' : i = s.size := hl
    exact Evn.step (fun k => event_number.l0.eq_2 ..) (Evn.neg (by omega) (Evn.ret _))
  | b :: l, i, a, hd, hl, hD, hb => by
    have hl' : i + (l.length + 1) = s.size := hl
    have e : bt s (i : Int) = (b.toNat : Int) := by rw [btq, byt_of_drop hd]; rfl
    have hw : wrap64 ((i : Int) + 1) = ((i + 1 : Nat) : Int) := by unfold wrap64; omega
    have hB := hD b List.mem_cons_self
    have hg := nv_ge l (dv a b)
    rw [nv_cons] at hb
    have hv := dv_eq a b
    have ha : wrap64 (wrap64 (10 * (a : Int)) + (((b.toNat : Int) - 48) % 256)) = (dv a b : Int) := by
      have e1 : wrap64 (10 * (a : Int)) = 10 * (a : Int) := by unfold wrap64; omega
      have e2 : ((b.toNat : Int) - 48) % 256 = (b.toNat : Int) - 48 := by omega
      rw [e1, e2, hv]
      unfold wrap64; omega
    have hd2 : s.data.toList.drop (i + 1) = l := by rw [← List.drop_drop, hd]; rfl
    have ih := number_fwd_l0 s hs l (i + 1) (dv a b) hd2 (by omega) (fun x hx => hD x (List.mem_cons_of_mem _ hx)) hb
    refine Evn.step (fun k => event_number.l0.eq_2 ..) (Evn.pos (by omega) (Evn.pos (by omega) (Evn.pos (by omega) (Evn.neg (by rw [e]; omega) (Evn.neg (by rw [e]; omega) ?_)))))
    rw [e, hw, ha]
    exact ih
theorem dd_le13 (u : Nat) (h : u < 10000000000000) : (decDigits u).length ≤ 13 := by
  rw [decDigits_length]; exact nd_le 12 u h
theorem number_fwd (u : Nat) (h : u < 10000000000000) : Evn (fun k => event_number.f k (bl (decDigits u))) (u : Int) := by
  have hl := dd_le13 u h
  have := number_fwd_l0 (bl (decDigits u)) hl (decDigits u) 0 0 rfl (Nat.zero_add _) (dd_all u) (by rw [dd_nv]; exact h)
  rw [dd_nv] at this
  exact Evn.neg (by rw [bl_size]; omega) this
def okId (n0 n1 n2 : Int) : Bool := decide (1 ≤ n0) && (decide (n0 ≤ 15) && ((decide (1 ≤ n1) && decide (n1 ≤ 1099511627775)) && (decide (1 ≤ n2) && decide (n2 ≤ 1099511627775))))
theorem okId_iff (n0 n1 n2 : Int) : okId n0 n1 n2 = true ↔ 1 ≤ n0 ∧ n0 ≤ 15 ∧ (1 ≤ n1 ∧ n1 ≤ 1099511627775) ∧ (1 ≤ n2 ∧ n2 ≤ 1099511627775) := by
  unfold okId
  simp only [Bool.and_eq_true, decide_eq_true_eq]
theorem count_fq (n : Int) : forest_count.f n = some (decide (1 ≤ n) && decide (n ≤ 1099511627775)) := by
  unfold forest_count.f
  by_cases h : n ≥ 1
  · rw [if_pos h, decide_eq_true (show 1 ≤ n from h), Bool.true_and]
  · rw [if_neg h, decide_eq_false (show ¬ 1 ≤ n from h), Bool.false_and]
theorem isid_q (n0 n1 n2 : Int) : forest_IsID.f n0 n1 n2 = some (okId n0 n1 n2) := by
  unfold forest_IsID.f okId
  by_cases h : n0 ≥ 1
  · rw [if_pos h, decide_eq_true (show 1 ≤ n0 from h), Bool.true_and]
    by_cases h2 : n0 ≤ 15
    · rw [if_pos h2, decide_eq_true h2, Bool.true_and, count_fq, Option.bind_some]
      cases hb : (decide (1 ≤ n1) && decide (n1 ≤ 1099511627775)) with
      | false => rw [if_neg (by decide), Bool.false_and]
      | true => rw [if_pos rfl, count_fq, Option.bind_some, Bool.true_and]
    · rw [if_neg h2, decide_eq_false h2, Bool.false_and]
  · rw [if_neg h, decide_eq_false (show ¬ 1 ≤ n0 from h), Bool.false_and]
def idL (n0 n1 n2 : Int) : List UInt8 := decDigits n0.toNat ++ 46 :: (decDigits n1.toNat ++ 46 :: decDigits n2.toNat)
def showId (n0 n1 n2 : Int) : ByteArray := if okId n0 n1 n2 = true then bl (idL n0 n1 n2) else bl []
theorem idL_len (n0 n1 n2 : Int) (h : okId n0 n1 n2 = true) : (idL n0 n1 n2).length ≤ 41 ∧ 5 ≤ (idL n0 n1 n2).length := by
  obtain ⟨h1, h2, h3, h4⟩ := (okId_iff ..).1 h
  have a := dd_le13 n0.toNat (by omega)
  have b := dd_le13 n1.toNat (by omega)
  have c := dd_le13 n2.toNat (by omega)
  have a' := dd_len n0.toNat
  have b' := dd_len n1.toNat
  have c' := dd_len n2.toNat
  unfold idL
  rw [List.length_append, List.length_cons, List.length_append, List.length_cons]
  omega
theorem showId_q (n0 n1 n2 : Int) : event_ShowID.f n0 n1 n2 = some (showId n0 n1 n2) := by
  unfold event_ShowID.f showId
  rw [isid_q, Option.bind_some]
  by_cases h : okId n0 n1 n2 = true
  · obtain ⟨h1, h2, h3, h4⟩ := (okId_iff ..).1 h
    have a := dd_le13 n0.toNat (by omega)
    have b := dd_le13 n1.toNat (by omega)
    have c := dd_le13 n2.toNat (by omega)
    have i0 : strconv_Itoa.f n0 = some (bl (decDigits n0.toNat)) := by unfold strconv_Itoa.f; rw [if_pos (by omega), itoa_pos' n0 (by omega)]
    have i1 : strconv_Itoa.f n1 = some (bl (decDigits n1.toNat)) := by unfold strconv_Itoa.f; rw [if_pos (by omega), itoa_pos' n1 (by omega)]
    have i2 : strconv_Itoa.f n2 = some (bl (decDigits n2.toNat)) := by unfold strconv_Itoa.f; rw [if_pos (by omega), itoa_pos' n2 (by omega)]
    have d : (⟨#[46]⟩ : ByteArray) = bl [46] := rfl
    have l1 : ([46] : List UInt8).length = 1 := rfl
    rw [if_pos h, if_pos h, i0, Option.bind_some, d, bl_size, if_pos (by omega), i1, Option.bind_some, bl_app, bl_size, bl_size, if_pos (by rw [List.length_append, l1]; omega), bl_app, bl_size, if_pos (by rw [List.length_append, List.length_append, l1]; omega), i2, Option.bind_some, bl_app, bl_size, bl_size, if_pos (by rw [List.length_append, List.length_append, List.length_append, l1]; omega), bl_app]
    unfold idL
    exact congrArg (fun l => some (bl l)) (by rw [List.append_assoc, List.append_assoc, List.append_assoc]; rfl)
  · rw [if_neg h, if_neg h]
theorem not46 (u : Nat) : (46 : UInt8) ∉ decDigits u := fun h => by
  have := dd_all u 46 h
  exact absurd this.1 (by decide)
theorem not32 (u : Nat) : (32 : UInt8) ∉ decDigits u := fun h => by
  have := dd_all u 32 h
  exact absurd this.1 (by decide)
theorem split_one (c : UInt8) (a r : List UInt8) (h : c ∉ a) (k : Nat) : Lib.splitK [c] 0 (k + 1) (a ++ c :: r) = a :: Lib.splitK [c] 0 k r := by
  rw [Lib.splitK, idx_at c r a h, if_neg (by rw [beq_iff_eq]; omega), Int.toNat_natCast, Nat.add_zero, List.take_left' rfl]
  show a :: Lib.splitK [c] 0 k ((a ++ c :: r).drop (a.length + 1)) = _
  rw [drop_mid]
theorem split_end (c : UInt8) (a : List UInt8) (h : c ∉ a) (k : Nat) : Lib.splitK [c] 0 k a = [a] := by
  cases k with
  | zero => rfl
  | succ k => rw [Lib.splitK, idx_no c a h, if_pos (by decide)]
theorem count_no (c : UInt8) (a : List UInt8) (h : c ∉ a) : ∀ f, Lib.countFrom [c] f a = 0
  | 0 => rfl
  | f + 1 => by rw [Lib.countFrom, idx_no c a h, if_pos (by decide)]
theorem count_one (c : UInt8) (a r : List UInt8) (h : c ∉ a) (f : Nat) : Lib.countFrom [c] (f + 1) (a ++ c :: r) = 1 + Lib.countFrom [c] f r := by
  rw [Lib.countFrom, idx_at c r a h, if_neg (by rw [beq_iff_eq]; omega), Int.toNat_natCast]
  show 1 + Lib.countFrom [c] f ((a ++ c :: r).drop (a.length + 1)) = _
  rw [drop_mid]
theorem split3 (a b c : List UInt8) (ha : 46 ∉ a) (hb : 46 ∉ b) (hc : 46 ∉ c) : Lib.splitB (bl [46]) 0 (Lib.countB (bl (a ++ 46 :: (b ++ 46 :: c))) (bl [46])) (bl (a ++ 46 :: (b ++ 46 :: c))) = [bl a, bl b, bl c] := by
  have hcount : Lib.countB (bl (a ++ 46 :: (b ++ 46 :: c))) (bl [46]) = 2 := by
    show Lib.countFrom [46] ((a ++ 46 :: (b ++ 46 :: c)).length + 1) (a ++ 46 :: (b ++ 46 :: c)) = 2
    obtain ⟨f, hf⟩ : ∃ f, (a ++ 46 :: (b ++ 46 :: c)).length + 1 = f + 1 + 1 + 1 := ⟨(a ++ 46 :: (b ++ 46 :: c)).length - 2, by rw [List.length_append, List.length_cons, List.length_append, List.length_cons]; omega⟩
    rw [hf, count_one _ _ _ ha, count_one _ _ _ hb, count_no _ _ hc]
  rw [hcount]
  have h := Lib.splitB_data (bl [46]) 0 2 (bl (a ++ 46 :: (b ++ 46 :: c)))
  have e : Lib.splitK (bl [46]).data.toList 0 2 (bl (a ++ 46 :: (b ++ 46 :: c))).data.toList = [a, b, c] := by
    show Lib.splitK [46] 0 2 (a ++ 46 :: (b ++ 46 :: c)) = _
    rw [split_one _ _ _ ha, split_one _ _ _ hb, split_end _ _ hc]
  rw [e] at h
  have inj : ∀ (x y : List ByteArray), x.map (·.data.toList) = y.map (·.data.toList) → x = y := by
    intro x
    induction x with
    | nil => intro y hy; cases y with
      | nil => rfl
      | cons _ _ => cases hy
    | cons x0 x ih => intro y hy; cases y with
      | nil => cases hy
      | cons y0 y =>
        rw [List.map_cons, List.map_cons] at hy
        injection hy with h1 h2
        rw [bl_ext h1, ih y h2]
  exact inj _ _ h
theorem parseId_fwd (n0 n1 n2 : Int) (h : okId n0 n1 n2 = true) : Evn (fun k => event_ParseID.f k (showId n0 n1 n2)) (n0, n1, n2, 0) := by
  obtain ⟨h1, h2, h3, h4⟩ := (okId_iff ..).1 h
  obtain ⟨l1, l2⟩ := idL_len _ _ _ h
  have e : showId n0 n1 n2 = bl (idL n0 n1 n2) := by unfold showId; rw [if_pos h]
  have z0 : ((n0.toNat : Nat) : Int) = n0 := by omega
  have z1 : ((n1.toNat : Nat) : Int) = n1 := by omega
  have z2 : ((n2.toNat : Nat) : Int) = n2 := by omega
  have f0 := number_fwd n0.toNat (by omega)
  have f1 := number_fwd n1.toNat (by omega)
  have f2 := number_fwd n2.toNat (by omega)
  rw [z0] at f0
  rw [z1] at f1
  rw [z2] at f2
  refine Evn.bc (u := [bl (decDigits n0.toNat), bl (decDigits n1.toNat), bl (decDigits n2.toNat)]) ?_ ?_
  · unfold strings_Split.f
    rw [e, if_pos (by rw [bl_size]; omega), if_pos (by decide)]
    exact congrArg some (split3 _ _ _ (not46 _) (not46 _) (not46 _))
  · have ne : ¬ (showId n0 n1 n2).toList = [] := by
      rw [e, bl_toList]
      intro hh; rw [hh] at l2; exact absurd l2 (by decide)
    exact Evn.pos rfl (Evn.pos (by show (0 : Int) < 3; omega) (Evn.bind f0 (Evn.pos (by show (1 : Int) < 3; omega) (Evn.bind f1 (Evn.pos (by show (2 : Int) < 3; omega) (Evn.bind f2 (Evn.neg ne (Evn.bc (showId_q _ _ _) (Evn.pos rfl (Evn.ret _))))))))))
theorem parseId_ev (s : ByteArray) (hs : s.size < 1000000) : ∃ n0 n1 n2 e, Evn (fun k => event_ParseID.f k s) (n0, n1, n2, e) ∧ (e = 0 ∨ e = 3) := by
  by_cases h : ((Lib.splitB (bl [46]) 0 (Lib.countB s (bl [46])) s).length : Int) = 3
  · obtain ⟨m0, g0⟩ := number_ev (rdOf ByteArray.empty (Lib.splitB (bl [46]) 0 (Lib.countB s (bl [46])) s) 0)
    obtain ⟨m1, g1⟩ := number_ev (rdOf ByteArray.empty (Lib.splitB (bl [46]) 0 (Lib.countB s (bl [46])) s) 1)
    obtain ⟨m2, g2⟩ := number_ev (rdOf ByteArray.empty (Lib.splitB (bl [46]) 0 (Lib.countB s (bl [46])) s) 2)
    have hsp : strings_Split.f s (bl [46]) = some (Lib.splitB (bl [46]) 0 (Lib.countB s (bl [46])) s) := by
      unfold strings_Split.f
      rw [if_pos (by omega), if_pos (by decide)]
    by_cases h0 : s.toList = []
    · exact ⟨0, 0, 0, 3, Evn.bc hsp (Evn.pos h (Evn.pos (by omega) (Evn.bind g0 (Evn.pos (by omega) (Evn.bind g1 (Evn.pos (by omega) (Evn.bind g2 (Evn.pos h0 (Evn.ret _))))))))), .inr rfl⟩
    by_cases h5 : (showId m0 m1 m2).toList = s.toList
    · exact ⟨m0, m1, m2, 0, Evn.bc hsp (Evn.pos h (Evn.pos (by omega) (Evn.bind g0 (Evn.pos (by omega) (Evn.bind g1 (Evn.pos (by omega) (Evn.bind g2 (Evn.neg h0 (Evn.bc (showId_q _ _ _) (Evn.pos h5 (Evn.ret _))))))))))), .inl rfl⟩
    · exact ⟨0, 0, 0, 3, Evn.bc hsp (Evn.pos h (Evn.pos (by omega) (Evn.bind g0 (Evn.pos (by omega) (Evn.bind g1 (Evn.pos (by omega) (Evn.bind g2 (Evn.neg h0 (Evn.bc (showId_q _ _ _) (Evn.neg h5 (Evn.ret _))))))))))), .inr rfl⟩
  · refine ⟨0, 0, 0, 3, Evn.bc (u := Lib.splitB (bl [46]) 0 (Lib.countB s (bl [46])) s) ?_ (Evn.neg h (Evn.ret _)), .inr rfl⟩
    unfold strings_Split.f
    rw [if_pos (by omega), if_pos (by decide)]
end Go.Proofs.YtkdndabpaajkaaaGreatDoor.U8
namespace Go.Proofs.YtkdndabpaajkaaaGreatDoor.U8
open Go.RowKit Go.Proofs.YtkdndabpaajkaaaGreatDoor.A Go.Proofs.YtkdndabpaajkaaaGreatDoorW.PrintWords Go.Proofs.YtkdndabpaajkaaaGreatDoorW.PrintLast Go.Lib
set_option linter.unusedVariables false
set_option linter.unusedSimpArgs false
def noN (z : Nat) : Prop := z ≠ 46 ∧ ¬ (letB (z : Int) = true ∨ z = 95) ∧ ¬ ((48 ≤ z ∧ z ≤ 57) ∨ z = 45)
theorem form_no (z : Nat) (hz : noN z) : ∀ (cs : List Nat) (first : Bool), formG first cs = true → ∀ c ∈ cs, c ≠ z
  | [], first, h, c, hc => by cases hc
  | d :: ds, first, h, c, hc => by
    rw [formG] at h
    have key : d ≠ z ∧ ∃ b, formG b ds = true := by
      by_cases h1 : d = 46
      · rw [if_pos h1] at h
        by_cases h2 : first = true
        · rw [if_pos h2] at h; cases h
        · rw [if_neg h2] at h
          exact ⟨fun e => hz.1 (by omega), _, h⟩
      · rw [if_neg h1] at h
        by_cases h2 : letB (d : Int) = true ∨ d = 95
        · rw [if_pos h2] at h
          exact ⟨fun e => hz.2.1 (e ▸ h2), _, h⟩
        · rw [if_neg h2] at h
          by_cases h3 : first = false ∧ ((48 ≤ d ∧ d ≤ 57) ∨ d = 45)
          · rw [if_pos h3] at h
            exact ⟨fun e => hz.2.2 (e ▸ h3.2), _, h⟩
          · rw [if_neg h3] at h; cases h
    obtain ⟨k1, b, k2⟩ := key
    rcases List.mem_cons.1 hc with rfl | hc
    · exact k1
    · exact form_no z hz ds b k2 c hc
theorem encL_mem2 : ∀ (cs : List Nat) (b : UInt8), b ∈ encL cs → ∃ c ∈ cs, b ∈ encodeRune (c : Int)
  | [], b, h => by cases h
  | c :: cs, b, h => by
    rw [encL] at h
    rcases List.mem_append.1 h with h | h
    · exact ⟨c, List.mem_cons_self, h⟩
    · obtain ⟨d, hd, hb⟩ := encL_mem2 cs b h
      exact ⟨d, List.mem_cons_of_mem _ hd, hb⟩
theorem name_no (z : UInt8) (h128 : z.toNat < 128) (hz : noN z.toNat) (s : ByteArray) (h : formedB s = true) : z ∉ s.data.toList := by
  obtain ⟨h0, hv, hg⟩ := formed_valid s h
  obtain ⟨e1, o1⟩ := valid_runesL _ hv
  intro hb
  rw [← e1] at hb
  obtain ⟨c, hc, hb⟩ := encL_mem2 _ _ hb
  have n1 := form_no z.toNat hz _ _ hg c hc
  by_cases hc128 : c < 128
  · unfold encodeRune at hb
    rw [encodeRuneZ_one (by omega) (by omega)] at hb
    have hb2 : z ∈ [((c : Int).toNat.toUInt8)] := hb
    rw [Int.toNat_natCast] at hb2
    have := congrArg UInt8.toNat (List.mem_singleton.1 hb2)
    rw [u8n c (by omega)] at this
    omega
  · have := enc_high c (o1 c hc) (by omega) z hb
    omega
theorem no32 (s : ByteArray) (h : formedB s = true) : (32 : UInt8) ∉ s.data.toList := name_no 32 (by decide) ⟨by decide, by decide, by decide⟩ s h
theorem no61 (s : ByteArray) (h : formedB s = true) : (61 : UInt8) ∉ s.data.toList := name_no 61 (by decide) ⟨by decide, by decide, by decide⟩ s h
theorem simple_form (s : ByteArray) (h : simpleB s = true) : formedB s = true := by
  unfold simpleB at h
  rw [Bool.and_eq_true, decide_eq_true_eq] at h
  exact check0 s h.1
end Go.Proofs.YtkdndabpaajkaaaGreatDoor.U8
namespace Go.Proofs.YtkdndabpaajkaaaGreatDoor.U8
open Go.RowKit Go.Proofs.YtkdndabpaajkaaaGreatDoor.A Go.Proofs.YtkdndabpaajkaaaGreatDoorW.PrintWords Go.Proofs.YtkdndabpaajkaaaGreatDoorW.PrintLast Go.Lib
set_option linter.unusedVariables false
set_option linter.unusedSimpArgs false
theorem or8 (n b : Int) (h0 : 0 ≤ n) (h1 : n < 18014398509481984) (b0 : 0 ≤ b) (b1 : b < 256) : Go.bits .or .i64 (n * 256) b = 256 * n + b := by
  have h := bits_join .i64 63 (by decide) (fun n h0 h1 => by have e : (2 : Int) ^ 63 = 9223372036854775808 := by decide
                                                             rw [e] at h1; rw [IntKind.wrap_i64]; omega) 8 (n * 256) b (by omega) (by have e : (2 : Int) ^ 8 = 256 := by decide
                                                                                                                                      rw [e]; omega) (by have e : (2 : Int) ^ 63 = 9223372036854775808 := by decide
                                                                                                                                                         rw [e]; omega) b0 (by have e : (2 : Int) ^ 8 = 256 := by decide
                                                                                                                                                                               rw [e]; omega) (by have e : (2 : Int) ^ 63 = 9223372036854775808 := by decide
                                                                                                                                                                                                  rw [e]; omega)
  rw [h]; omega
theorem and63 (b : Int) (b0 : 0 ≤ b) (b1 : b < 256) : Go.bits .and .u8 b 63 = b % 64 := by
  have h : ∀ n : Fin 256, Go.bits .and .u8 (n.val : Int) 63 = (n.val : Int) % 64 := by decide +kernel
  have := h ⟨b.toNat, by omega⟩
  simp only at this
  rw [Int.toNat_of_nonneg b0] at this
  exact this
def be (l : List UInt8) : Nat → Nat
  | 0 => byt l 0 % 64
  | i + 1 => 256 * be l i + byt l (i + 1)
theorem be_lt (l : List UInt8) : ∀ i, be l i < 64 * 256 ^ i
  | 0 => by show byt l 0 % 64 < _; omega
  | i + 1 => by
    have h := be_lt l i
    have b := byt_lt l (i + 1)
    show 256 * be l i + byt l (i + 1) < _
    rw [Nat.pow_succ]
    generalize 256 ^ i = P at *
    omega
theorem be_small (l : List UInt8) (i : Nat) (h : i ≤ 6) : be l i < 18014398509481984 := by
  have h1 := be_lt l i
  have h2 : 256 ^ i ≤ 256 ^ 6 := Nat.pow_le_pow_right (by decide) h
  have e : 256 ^ 6 = 281474976710656 := by decide
  rw [e] at h2
  omega
theorem be_max (l : List UInt8) (i : Nat) (h : i ≤ 7) : be l i ≤ 4611686018427387903 := by
  have h1 := be_lt l i
  have h2 : 256 ^ i ≤ 256 ^ 7 := Nat.pow_le_pow_right (by decide) h
  have e : 256 ^ 7 = 72057594037927936 := by decide
  rw [e] at h2
  omega
theorem btb (s : ByteArray) (i : Nat) : bt s (i : Int) = (byt s.data.toList i : Int) := by
  have := bt_byt s (i : Int)
  rwa [Int.toNat_natCast] at this
theorem qloop (s : ByteArray) (sz : Nat) (hz : sz ≤ 8) (hs : sz ≤ s.size) (k : Nat) : ∀ m i, sz = i + 1 + m →
    quic_Get.l0 (k + m) s (be s.data.toList i : Int) (sz : Int) ((i + 1 : Nat) : Int) = quic_Get.l0 k s (be s.data.toList (sz - 1) : Int) (sz : Int) (sz : Int)
  | 0, i, h => by rw [show sz - 1 = i by omega, show i + 1 = sz by omega]; rfl
  | m + 1, i, h => by
    have h1 := be_small s.data.toList i (by omega)
    have h2 := byt_lt s.data.toList (i + 1)
    have ih := qloop s sz hz hs k m (i + 1) (by omega)
    show quic_Get.l0 (k + m + 1) s _ _ _ = _
    rw [quic_Get.l0, if_pos (by omega), if_pos (by omega), if_pos (by omega), btb, w64 (x := (be s.data.toList i : Int) * 256) (by omega) (by omega), w64 (x := ((byt s.data.toList (i + 1) : Nat) : Int)) (by omega) (by omega), or8 _ _ (by omega) (by omega) (by omega) (by omega), w64 (by omega) (by omega)]
    rw [← ih]
    show _ = quic_Get.l0 (k + m) s ((256 * be s.data.toList i + byt s.data.toList (i + 1) : Nat) : Int) _ _
    congr 1
def szOf (n : Nat) : Nat := if n < 64 then 1 else if n < 16384 then 2 else if n < 1073741824 then 4 else 8
theorem qsize (n : Nat) (h : n ≤ 4611686018427387903) (k : Nat) : quic_Size.f (k + 1) (n : Int) = some (szOf n : Int) := by
  unfold quic_Size.f szOf
  rw [if_neg (by omega), quic_Size.j0, if_neg (by simp; omega)]
  have e1 : wrap64 (1 * 2) = 2 := by unfold wrap64; omega
  have e2 : wrap64 (2 * 2) = 4 := by unfold wrap64; omega
  have e3 : wrap64 (4 * 2) = 8 := by unfold wrap64; omega
  rw [e1, e2, e3]
  by_cases h1 : n < 64
  · rw [if_neg (by omega), if_neg (by omega), if_neg (by omega), if_pos h1]; rfl
  by_cases h2 : n < 16384
  · rw [if_neg (by omega), if_neg (by omega), if_pos (by omega), if_neg h1, if_pos h2]; rfl
  by_cases h3 : n < 1073741824
  · rw [if_neg (by omega), if_pos (by omega), if_neg h1, if_neg h2, if_pos h3]; rfl
  · rw [if_pos (by omega), if_neg h1, if_neg h2, if_neg h3]; rfl
def numB (n : Nat) : List Int :=
  if n < 64 then [(n : Int)]
  else if n < 16384 then [((n / 256 + 64 : Nat) : Int), ((n % 256 : Nat) : Int)]
  else if n < 1073741824 then [((n / 16777216 + 128 : Nat) : Int), ((n / 65536 % 256 : Nat) : Int), ((n / 256 % 256 : Nat) : Int), ((n % 256 : Nat) : Int)]
  else [((n / 72057594037927936 + 192 : Nat) : Int), ((n / 281474976710656 % 256 : Nat) : Int), ((n / 1099511627776 % 256 : Nat) : Int), ((n / 4294967296 % 256 : Nat) : Int), ((n / 16777216 % 256 : Nat) : Int), ((n / 65536 % 256 : Nat) : Int), ((n / 256 % 256 : Nat) : Int), ((n % 256 : Nat) : Int)]
theorem numB_len (n : Nat) : (numB n).length = szOf n := by
  unfold numB szOf
  repeat' split
  all_goals rfl
theorem szOf_cases (n : Nat) : (n < 64 ∧ szOf n = 1) ∨ (64 ≤ n ∧ n < 16384 ∧ szOf n = 2) ∨ (16384 ≤ n ∧ n < 1073741824 ∧ szOf n = 4) ∨ (1073741824 ≤ n ∧ szOf n = 8) := by
  unfold szOf
  repeat' split
  all_goals omega
theorem ofb (x : Int) (b : UInt8) (h : x = (b.toNat : Int)) : UInt8.ofNat x.toNat = b := by
  rw [h, Int.toNat_natCast, UInt8.ofNat_toNat]
theorem lcons {l : List UInt8} {n : Nat} (h : n + 1 ≤ l.length) : ∃ b t, l = b :: t ∧ n ≤ t.length := by
  cases l with
  | nil => simp at h
  | cons b t => exact ⟨b, t, rfl, by simpa using h⟩
theorem numKey (l : List UInt8) (sz : Nat) (hsz : sz = 2 ^ (byt l 0 / 64)) (hl : sz ≤ l.length) : Go.Lib.bytesOf (numB (be l (sz - 1))) = l.take sz ↔ szOf (be l (sz - 1)) = sz := by
  constructor
  · intro h
    have := congrArg List.length h
    unfold Go.Lib.bytesOf at this
    rw [List.length_map, numB_len, List.length_take, Nat.min_eq_left hl] at this
    exact this
  · intro h
    have hb := byt_lt l 0
    have hc : byt l 0 / 64 = 0 ∨ byt l 0 / 64 = 1 ∨ byt l 0 / 64 = 2 ∨ byt l 0 / 64 = 3 := by omega
    have hz := szOf_cases (be l (sz - 1))
    have p0 : (2 : Nat) ^ 0 = 1 := by decide
    have p1 : (2 : Nat) ^ 1 = 2 := by decide
    have p2 : (2 : Nat) ^ 2 = 4 := by decide
    have p3 : (2 : Nat) ^ 3 = 8 := by decide
    rcases hc with hc | hc | hc | hc <;> rw [hc] at hsz <;> simp only [p0, p1, p2, p3] at hsz <;> subst hsz
    · obtain ⟨b0, t, rfl, q0⟩ := lcons (n := 0) hl
      have e : be (b0 :: t) (1 - 1) = b0.toNat := by
        have : byt (b0 :: t) 0 = b0.toNat := rfl
        show byt (b0 :: t) 0 % 64 = _
        omega
      rw [e] at hz h ⊢
      unfold numB
      rw [if_pos (by omega)]
      show [UInt8.ofNat _] = [b0]
      rw [ofb _ b0 rfl]
    · obtain ⟨b0, t, rfl, q0⟩ := lcons (n := 1) hl
      obtain ⟨b1, t, rfl, q1⟩ := lcons (n := 0) q0
      have e0 : b0.toNat / 64 = 1 := hc
      have e : be (b0 :: b1 :: t) (2 - 1) = 256 * (b0.toNat % 64) + b1.toNat := rfl
      have g0 := UInt8.toNat_lt b0
      have g1 := UInt8.toNat_lt b1
      rw [e] at hz h ⊢
      unfold numB
      rw [if_neg (by omega), if_pos (by omega)]
      show [UInt8.ofNat _, UInt8.ofNat _] = [b0, b1]
      rw [ofb _ b0 (by omega), ofb _ b1 (by omega)]
    · obtain ⟨b0, t, rfl, q0⟩ := lcons (n := 3) hl
      obtain ⟨b1, t, rfl, q1⟩ := lcons (n := 2) q0
      obtain ⟨b2, t, rfl, q2⟩ := lcons (n := 1) q1
      obtain ⟨b3, t, rfl, q3⟩ := lcons (n := 0) q2
      have e0 : b0.toNat / 64 = 2 := hc
      have e : be (b0 :: b1 :: b2 :: b3 :: t) (4 - 1) = 256 * (256 * (256 * (b0.toNat % 64) + b1.toNat) + b2.toNat) + b3.toNat := rfl
      have g0 := UInt8.toNat_lt b0
      have g1 := UInt8.toNat_lt b1
      have g2 := UInt8.toNat_lt b2
      have g3 := UInt8.toNat_lt b3
      rw [e] at hz h ⊢
      unfold numB
      rw [if_neg (by omega), if_neg (by omega), if_pos (by omega)]
      show [UInt8.ofNat _, UInt8.ofNat _, UInt8.ofNat _, UInt8.ofNat _] = [b0, b1, b2, b3]
      rw [ofb _ b0 (by omega), ofb _ b1 (by omega), ofb _ b2 (by omega), ofb _ b3 (by omega)]
    · obtain ⟨b0, t, rfl, q0⟩ := lcons (n := 7) hl
      obtain ⟨b1, t, rfl, q1⟩ := lcons (n := 6) q0
      obtain ⟨b2, t, rfl, q2⟩ := lcons (n := 5) q1
      obtain ⟨b3, t, rfl, q3⟩ := lcons (n := 4) q2
      obtain ⟨b4, t, rfl, q4⟩ := lcons (n := 3) q3
      obtain ⟨b5, t, rfl, q5⟩ := lcons (n := 2) q4
      obtain ⟨b6, t, rfl, q6⟩ := lcons (n := 1) q5
      obtain ⟨b7, t, rfl, q7⟩ := lcons (n := 0) q6
      have e0 : b0.toNat / 64 = 3 := hc
      have e : be (b0 :: b1 :: b2 :: b3 :: b4 :: b5 :: b6 :: b7 :: t) (8 - 1) = 256 * (256 * (256 * (256 * (256 * (256 * (256 * (b0.toNat % 64) + b1.toNat) + b2.toNat) + b3.toNat) + b4.toNat) + b5.toNat) + b6.toNat) + b7.toNat := rfl
      have g0 := UInt8.toNat_lt b0
      have g1 := UInt8.toNat_lt b1
      have g2 := UInt8.toNat_lt b2
      have g3 := UInt8.toNat_lt b3
      have g4 := UInt8.toNat_lt b4
      have g5 := UInt8.toNat_lt b5
      have g6 := UInt8.toNat_lt b6
      have g7 := UInt8.toNat_lt b7
      rw [e] at hz h ⊢
      unfold numB
      rw [if_neg (by omega), if_neg (by omega), if_neg (by omega)]
      show [UInt8.ofNat _, UInt8.ofNat _, UInt8.ofNat _, UInt8.ofNat _, UInt8.ofNat _, UInt8.ofNat _, UInt8.ofNat _, UInt8.ofNat _] = [b0, b1, b2, b3, b4, b5, b6, b7]
      rw [ofb _ b0 (by omega), ofb _ b1 (by omega), ofb _ b2 (by omega), ofb _ b3 (by omega), ofb _ b4 (by omega), ofb _ b5 (by omega), ofb _ b6 (by omega), ofb _ b7 (by omega)]
def getS (s : ByteArray) : Int × ByteArray × Int :=
  if s.size = 0 then (0, ⟨#[]⟩, 7)
  else if s.size < 2 ^ (byt s.data.toList 0 / 64) then (0, ⟨#[]⟩, 7)
  else if szOf (be s.data.toList (2 ^ (byt s.data.toList 0 / 64) - 1)) = 2 ^ (byt s.data.toList 0 / 64) then ((be s.data.toList (2 ^ (byt s.data.toList 0 / 64) - 1) : Int), s.extract (2 ^ (byt s.data.toList 0 / 64)) s.size, 0)
  else (0, ⟨#[]⟩, 3)
theorem shlc (c : Nat) (h : c ≤ 3) : shl .i64 1 (c : Int) = ((2 ^ c : Nat) : Int) := by
  have : c = 0 ∨ c = 1 ∨ c = 2 ∨ c = 3 := by omega
  rcases this with rfl | rfl | rfl | rfl <;> decide
theorem pow_le8 (c : Nat) (h : c ≤ 3) : 1 ≤ 2 ^ c ∧ 2 ^ c ≤ 8 := by
  have : c = 0 ∨ c = 1 ∨ c = 2 ∨ c = 3 := by omega
  rcases this with rfl | rfl | rfl | rfl <;> decide
theorem qget (s : ByteArray) (hs : s.size < 1000000) (k : Nat) : quic_Get.f (k + 12) s = some (getS s) := by
  have hb := byt_lt s.data.toList 0
  have e0 : bt s 0 = byt s.data.toList 0 := bt_byt s 0
  have hp := pow_le8 (byt s.data.toList 0 / 64) (by omega)
  have e2 : shl .i64 1 ((byt s.data.toList 0 : Int) / 64) = ((2 ^ (byt s.data.toList 0 / 64) : Nat) : Int) := by
    have := shlc (byt s.data.toList 0 / 64) (by omega)
    rwa [Int.natCast_ediv] at this
  unfold quic_Get.f getS
  by_cases hz : s.size = 0
  · rw [if_pos ((toList_nil s).2 hz), if_pos hz]
  rw [if_neg (fun h => hz ((toList_nil s).1 h)), if_neg hz, if_pos (by omega), e0, if_pos (by omega), e2, and63 _ (by omega) (by omega)]
  generalize hsz : 2 ^ (byt s.data.toList 0 / 64) = sz at *
  by_cases hl : s.size < sz
  · rw [if_pos (by omega), if_pos hl]
  rw [if_neg (by omega), if_neg hl, w64 (by omega) (by omega)]
  have ql := qloop s sz hp.2 (by omega) (k + 12 - (sz - 1)) (sz - 1) 0 (by omega)
  rw [show k + 12 - (sz - 1) + (sz - 1) = k + 12 by omega] at ql
  have e3 : ((be s.data.toList 0 : Nat) : Int) = (byt s.data.toList 0 : Int) % 64 := rfl
  rw [← e3]
  refine ql.trans ?_
  obtain ⟨q, hq⟩ : ∃ q, k + 12 - (sz - 1) = q + 1 + 1 := ⟨k + 12 - (sz - 1) - 2, by omega⟩
  rw [hq, quic_Get.l0, if_neg (by omega), qsize _ (be_max _ _ (by omega)) q]
  simp only [Option.bind_some]
  by_cases hf : szOf (be s.data.toList (sz - 1)) = sz
  · rw [if_pos (by omega), if_pos (by omega), if_pos (by omega), if_pos hf, Int.toNat_natCast]
  · rw [if_neg (by omega), if_neg hf]
end Go.Proofs.YtkdndabpaajkaaaGreatDoor.U8
namespace Go.Proofs.YtkdndabpaajkaaaGreatDoor.U8
open Go.RowKit Go.Proofs.YtkdndabpaajkaaaGreatDoor.A Go.Proofs.YtkdndabpaajkaaaGreatDoorW.PrintWords Go.Proofs.YtkdndabpaajkaaaGreatDoorW.PrintLast Go.Lib
set_option linter.unusedVariables false
set_option linter.unusedSimpArgs false
theorem st256 (n P : Nat) : 256 * (n / (P * 256)) + n / P % 256 = n / P := by
  rw [← Nat.div_div_eq_div_mul]; omega
def encN (n : Nat) : List UInt8 := Go.Lib.bytesOf (numB n)
theorem encN_len (n : Nat) : (encN n).length = szOf n := by
  unfold encN Go.Lib.bytesOf
  rw [List.length_map, numB_len]
theorem ub (n : Nat) (h : n < 256) : (UInt8.ofNat (n : Int).toNat).toNat = n := by rw [Int.toNat_natCast, UInt8.toNat_ofNat']; omega
theorem enc_be (n : Nat) (h : n ≤ 4611686018427387903) (r : List UInt8) : 2 ^ (byt (encN n ++ r) 0 / 64) = szOf n ∧ be (encN n ++ r) (szOf n - 1) = n := by
  have p0 : (2 : Nat) ^ 0 = 1 := by decide
  have p1 : (2 : Nat) ^ 1 = 2 := by decide
  have p2 : (2 : Nat) ^ 2 = 4 := by decide
  have p3 : (2 : Nat) ^ 3 = 8 := by decide
  unfold encN numB szOf
  by_cases h1 : n < 64
  · rw [if_pos h1, if_pos h1]
    have b0 : byt (Go.Lib.bytesOf [(n : Int)] ++ r) 0 = n := ub n (by omega)
    refine ⟨by rw [b0, show n / 64 = 0 by omega], ?_⟩
    show byt _ 0 % 64 = n
    rw [b0]; omega
  rw [if_neg h1, if_neg h1]
  by_cases h2 : n < 16384
  · rw [if_pos h2, if_pos h2]
    have b0 : byt (Go.Lib.bytesOf [((n / 256 + 64 : Nat) : Int), ((n % 256 : Nat) : Int)] ++ r) 0 = n / 256 + 64 := ub _ (by omega)
    have b1 : byt (Go.Lib.bytesOf [((n / 256 + 64 : Nat) : Int), ((n % 256 : Nat) : Int)] ++ r) 1 = n % 256 := ub _ (by omega)
    refine ⟨by rw [b0, show (n / 256 + 64) / 64 = 1 by omega], ?_⟩
    show 256 * (byt _ 0 % 64) + byt _ 1 = n
    rw [b0, b1]; omega
  rw [if_neg h2, if_neg h2]
  by_cases h3 : n < 1073741824
  · rw [if_pos h3, if_pos h3]
    generalize hl : Go.Lib.bytesOf [((n / 16777216 + 128 : Nat) : Int), ((n / 65536 % 256 : Nat) : Int), ((n / 256 % 256 : Nat) : Int), ((n % 256 : Nat) : Int)] ++ r = l
    have b0 : byt l 0 = n / 16777216 + 128 := by rw [← hl]; exact ub _ (by omega)
    have b1 : byt l 1 = n / 65536 % 256 := by rw [← hl]; exact ub _ (by omega)
    have b2 : byt l 2 = n / 256 % 256 := by rw [← hl]; exact ub _ (by omega)
    have b3 : byt l 3 = n % 256 := by rw [← hl]; exact ub _ (by omega)
    refine ⟨by rw [b0, show (n / 16777216 + 128) / 64 = 2 by omega], ?_⟩
    show 256 * (256 * (256 * (byt l 0 % 64) + byt l 1) + byt l 2) + byt l 3 = n
    rw [b0, b1, b2, b3, show (n / 16777216 + 128) % 64 = n / 16777216 by omega]
    rw [show 256 * (n / 16777216) + n / 65536 % 256 = n / 65536 from st256 n 65536, show 256 * (n / 65536) + n / 256 % 256 = n / 256 from st256 n 256]; omega
  · rw [if_neg h3, if_neg h3]
    generalize hl : Go.Lib.bytesOf [((n / 72057594037927936 + 192 : Nat) : Int), ((n / 281474976710656 % 256 : Nat) : Int), ((n / 1099511627776 % 256 : Nat) : Int), ((n / 4294967296 % 256 : Nat) : Int), ((n / 16777216 % 256 : Nat) : Int), ((n / 65536 % 256 : Nat) : Int), ((n / 256 % 256 : Nat) : Int), ((n % 256 : Nat) : Int)] ++ r = l
    have b0 : byt l 0 = n / 72057594037927936 + 192 := by rw [← hl]; exact ub _ (by omega)
    have b1 : byt l 1 = n / 281474976710656 % 256 := by rw [← hl]; exact ub _ (by omega)
    have b2 : byt l 2 = n / 1099511627776 % 256 := by rw [← hl]; exact ub _ (by omega)
    have b3 : byt l 3 = n / 4294967296 % 256 := by rw [← hl]; exact ub _ (by omega)
    have b4 : byt l 4 = n / 16777216 % 256 := by rw [← hl]; exact ub _ (by omega)
    have b5 : byt l 5 = n / 65536 % 256 := by rw [← hl]; exact ub _ (by omega)
    have b6 : byt l 6 = n / 256 % 256 := by rw [← hl]; exact ub _ (by omega)
    have b7 : byt l 7 = n % 256 := by rw [← hl]; exact ub _ (by omega)
    refine ⟨by rw [b0, show (n / 72057594037927936 + 192) / 64 = 3 by omega], ?_⟩
    show 256 * (256 * (256 * (256 * (256 * (256 * (256 * (byt l 0 % 64) + byt l 1) + byt l 2) + byt l 3) + byt l 4) + byt l 5) + byt l 6) + byt l 7 = n
    rw [b0, b1, b2, b3, b4, b5, b6, b7, show (n / 72057594037927936 + 192) % 64 = n / 72057594037927936 by omega]
    rw [show 256 * (n / 72057594037927936) + n / 281474976710656 % 256 = n / 281474976710656 from st256 n 281474976710656, show 256 * (n / 281474976710656) + n / 1099511627776 % 256 = n / 1099511627776 from st256 n 1099511627776, show 256 * (n / 1099511627776) + n / 4294967296 % 256 = n / 4294967296 from st256 n 4294967296, show 256 * (n / 4294967296) + n / 16777216 % 256 = n / 16777216 from st256 n 16777216, show 256 * (n / 16777216) + n / 65536 % 256 = n / 65536 from st256 n 65536, show 256 * (n / 65536) + n / 256 % 256 = n / 256 from st256 n 256]; omega
theorem szOf_pos (n : Nat) : 1 ≤ szOf n ∧ szOf n ≤ 8 := by have := szOf_cases n; omega
theorem get_fwd (s : ByteArray) (n : Nat) (h : n ≤ 4611686018427387903) (r : List UInt8) (hs : s.data.toList = encN n ++ r) :
    getS s = ((n : Int), s.extract (szOf n) s.size, 0) ∧ s.data.toList.drop (szOf n) = r ∧ szOf n ≤ s.size := by
  have hl := congrArg List.length hs
  rw [List.length_append, ← size_len, encN_len] at hl
  have hp := szOf_pos n
  obtain ⟨e1, e2⟩ := enc_be n h r
  rw [← hs] at e1 e2
  refine ⟨?_, by rw [hs, ← encN_len, List.drop_left], by omega⟩
  unfold getS
  rw [if_neg (by omega), e1, if_neg (by omega), e2, if_pos rfl]
theorem get_back (s : ByteArray) (n : Int) (rest : ByteArray) (h : getS s = (n, rest, 0)) : 0 ≤ n ∧ n ≤ 4611686018427387903 ∧ s.data.toList = encN n.toNat ++ rest.data.toList := by
  unfold getS at h
  by_cases h0 : s.size = 0
  · rw [if_pos h0] at h; simp at h
  rw [if_neg h0] at h
  by_cases h1 : s.size < 2 ^ (byt s.data.toList 0 / 64)
  · rw [if_pos h1] at h; simp at h
  rw [if_neg h1] at h
  have hb := byt_lt s.data.toList 0
  have hp := pow_le8 (byt s.data.toList 0 / 64) (by omega)
  generalize hsz : 2 ^ (byt s.data.toList 0 / 64) = sz at *
  have hm := be_max s.data.toList (sz - 1) (by omega)
  by_cases h2 : szOf (be s.data.toList (sz - 1)) = sz
  · rw [if_pos h2] at h
    simp only [Prod.mk.injEq] at h
    obtain ⟨rfl, rfl, _⟩ := h
    refine ⟨by omega, by omega, ?_⟩
    rw [Int.toNat_natCast]
    unfold encN
    rw [(numKey s.data.toList sz hsz.symm (by rw [← size_len]; omega)).2 h2, extract_toList, List.take_append_drop]
  · rw [if_neg h2] at h; simp at h
theorem orC (x c : Nat) (hx : x < 64) (hc : c < 4) : Go.bits .or .u8 (x : Int) ((64 * c : Nat) : Int) = ((x + 64 * c : Nat) : Int) := by
  have all : ∀ (x : Fin 64) (c : Fin 4), Go.bits .or .u8 (x.val : Int) ((64 * c.val : Nat) : Int) = ((x.val + 64 * c.val : Nat) : Int) := by decide +kernel
  exact all ⟨x, hx⟩ ⟨c, hc⟩
theorem qstep (n sz : Nat) (h : n ≤ 4611686018427387903) (hsz : sz ≤ 8) (L : List Int) (hL : L.length = sz) (j : Nat) (hj : j < sz) (P : Nat) (hP : P = 2 ^ (8 * j)) (J K : Int) (hJ : J = j) (hK : K = (j : Int) + 1) (k : Nat) :
    quic_Num.l0 (k + 1) (n : Int) (sz : Int) L (sz : Int) J = quic_Num.l0 k (n : Int) (sz : Int) (L.set (sz - 1 - j) ((n / P % 256 : Nat) : Int)) (sz : Int) K := by
  subst hJ hK
  have e : wrap64 (8 * (j : Int)) = ((8 * j : Nat) : Int) := by rw [w64 (by omega) (by omega)]; omega
  have e1 : wrap64 (wrap64 ((sz : Int) - 1) - (j : Int)) = ((sz - 1 - j : Nat) : Int) := by
    rw [w64 (x := (sz : Int) - 1) (by omega) (by omega), w64 (by omega) (by omega)]; omega
  have e3 : shr .i64 (n : Int) ((8 * j : Nat) : Int) = ((n / P : Nat) : Int) := by
    unfold shr
    rw [Int.toNat_natCast, Nat.min_eq_left (by show 8 * j ≤ 64; omega), hP, Int.natCast_ediv]
    congr 1
  rw [quic_Num.l0, if_pos (by omega), e, if_pos (by omega), e1, if_pos (by omega), if_pos (by rw [hL]; omega), e3, Int.toNat_natCast, Int.natCast_emod, w64 (by omega) (by omega)]
  rfl
theorem qlast (n sz : Nat) (L : List Int) (hL : L.length = sz) (hz : 1 ≤ sz) (J : Int) (hJ : J = (sz : Int)) (c x : Nat) (hc : c < 4) (k : Nat) (hcl : quic_class.f k (sz : Int) = some (c : Int)) (hx : rd L 0 = (x : Int)) (hx6 : x < 64) :
    quic_Num.l0 (k + 1) (n : Int) (sz : Int) L (sz : Int) J = some (strOfNums (L.set 0 ((x + 64 * c : Nat) : Int))) := by
  subst hJ
  rw [quic_Num.l0, if_neg (by omega), if_pos (by omega), hcl, Option.bind_some, hx, w64 (by omega) (by omega), show ((c : Int) * 64) % 256 = ((64 * c : Nat) : Int) by omega, orC x c hx6 hc]
  rfl
theorem cls2 (k : Nat) : quic_class.f (k + 5) ((2 : Nat) : Int) = some ((1 : Nat) : Int) := by
  unfold quic_class.f
  rw [quic_class.l0, if_pos (by decide), show wrap64 (Int.tdiv ((2 : Nat) : Int) 2) = 1 by decide +kernel, show wrap64 (0 + 1) = 1 by decide +kernel, quic_class.l0, if_neg (by decide)]; rfl
theorem cls4 (k : Nat) : quic_class.f (k + 5) ((4 : Nat) : Int) = some ((2 : Nat) : Int) := by
  unfold quic_class.f
  rw [quic_class.l0, if_pos (by decide), show wrap64 (Int.tdiv ((4 : Nat) : Int) 2) = 2 by decide +kernel, show wrap64 (0 + 1) = 1 by decide +kernel, quic_class.l0, if_pos (by decide), show wrap64 (Int.tdiv 2 2) = 1 by decide +kernel, show wrap64 (1 + 1) = 2 by decide +kernel, quic_class.l0, if_neg (by decide)]; rfl
theorem cls8 (k : Nat) : quic_class.f (k + 5) ((8 : Nat) : Int) = some ((3 : Nat) : Int) := by
  unfold quic_class.f
  rw [quic_class.l0, if_pos (by decide), show wrap64 (Int.tdiv ((8 : Nat) : Int) 2) = 4 by decide +kernel, show wrap64 (0 + 1) = 1 by decide +kernel, quic_class.l0, if_pos (by decide), show wrap64 (Int.tdiv 4 2) = 2 by decide +kernel, show wrap64 (1 + 1) = 2 by decide +kernel, quic_class.l0, if_pos (by decide), show wrap64 (Int.tdiv 2 2) = 1 by decide +kernel, show wrap64 (2 + 1) = 3 by decide +kernel, quic_class.l0, if_neg (by decide)]; rfl
theorem numq (n : Nat) (h : n ≤ 4611686018427387903) (k : Nat) : quic_Num.f (k + 20) (n : Int) = some (strOfNums (numB n)) := by
  unfold quic_Num.f
  rw [show k + 20 = k + 19 + 1 by omega, qsize n h (k + 19), Option.bind_some]
  have hp := szOf_pos n
  rw [if_neg (by omega), if_pos (by omega), if_pos (by omega), Int.toNat_natCast]
  unfold szOf numB
  by_cases h1 : n < 64
  · rw [if_pos h1, if_pos h1, qstep n 1 h (by omega) _ rfl 0 (by omega) 1 (by decide) 0 1 rfl rfl]
    rw [qlast n 1 _ rfl (by omega) 1 rfl 0 (n / 1 % 256) (by omega) (k + 18) rfl rfl (by omega), show n / 1 % 256 + 64 * 0 = n by omega]; rfl
  rw [if_neg h1, if_neg h1]
  by_cases h2 : n < 16384
  · rw [if_pos h2, if_pos h2, qstep n 2 h (by omega) _ rfl 0 (by omega) 1 (by decide) 0 1 rfl rfl, qstep n 2 h (by omega) _ rfl 1 (by omega) 256 (by decide) 1 2 rfl rfl]
    rw [qlast n 2 _ rfl (by omega) 2 rfl 1 (n / 256 % 256) (by omega) (k + 17) (cls2 (k + 12)) rfl (by omega), show n / 256 % 256 + 64 * 1 = n / 256 + 64 by omega]
    rw [show n / 1 % 256 = n % 256 by omega]; rfl
  rw [if_neg h2, if_neg h2]
  by_cases h3 : n < 1073741824
  · rw [if_pos h3, if_pos h3, qstep n 4 h (by omega) _ rfl 0 (by omega) 1 (by decide) 0 1 rfl rfl, qstep n 4 h (by omega) _ rfl 1 (by omega) 256 (by decide) 1 2 rfl rfl, qstep n 4 h (by omega) _ rfl 2 (by omega) 65536 (by decide) 2 3 rfl rfl, qstep n 4 h (by omega) _ rfl 3 (by omega) 16777216 (by decide) 3 4 rfl rfl]
    rw [qlast n 4 _ rfl (by omega) 4 rfl 2 (n / 16777216 % 256) (by omega) (k + 15) (cls4 (k + 10)) rfl (by omega), show n / 16777216 % 256 + 64 * 2 = n / 16777216 + 128 by omega]
    rw [show n / 1 % 256 = n % 256 by omega]; rfl
  · rw [if_neg h3, if_neg h3, qstep n 8 h (by omega) _ rfl 0 (by omega) 1 (by decide) 0 1 rfl rfl, qstep n 8 h (by omega) _ rfl 1 (by omega) 256 (by decide) 1 2 rfl rfl, qstep n 8 h (by omega) _ rfl 2 (by omega) 65536 (by decide) 2 3 rfl rfl, qstep n 8 h (by omega) _ rfl 3 (by omega) 16777216 (by decide) 3 4 rfl rfl,
      qstep n 8 h (by omega) _ rfl 4 (by omega) 4294967296 (by decide) 4 5 rfl rfl, qstep n 8 h (by omega) _ rfl 5 (by omega) 1099511627776 (by decide) 5 6 rfl rfl, qstep n 8 h (by omega) _ rfl 6 (by omega) 281474976710656 (by decide) 6 7 rfl rfl, qstep n 8 h (by omega) _ rfl 7 (by omega) 72057594037927936 (by decide) 7 8 rfl rfl]
    rw [qlast n 8 _ rfl (by omega) 8 rfl 3 (n / 72057594037927936 % 256) (by omega) (k + 11) (cls8 (k + 6)) rfl (by omega), show n / 72057594037927936 % 256 + 64 * 3 = n / 72057594037927936 + 192 by omega]
    rw [show n / 1 % 256 = n % 256 by omega]; rfl
end Go.Proofs.YtkdndabpaajkaaaGreatDoor.U8
namespace Go.Proofs.YtkdndabpaajkaaaGreatDoor.U8
open Go.RowKit Go.Proofs.YtkdndabpaajkaaaGreatDoor.A Go.Proofs.YtkdndabpaajkaaaGreatDoorW.PrintWords Go.Proofs.YtkdndabpaajkaaaGreatDoorW.PrintLast Go.Lib
set_option linter.unusedVariables false
set_option linter.unusedSimpArgs false
def okV (a0 a1 : Int) (a2 : ByteArray) : Prop :=
  (a0 = 1 ∧ -9007199254740991 ≤ a1 ∧ a1 ≤ 9007199254740991 ∧ a2.size = 0) ∨ (a0 = 2 ∧ a1 = 0 ∧ a2.size ≤ 200 ∧ validD a2.data.toList = true) ∨ (a0 = 3 ∧ (a1 = 0 ∨ a1 = 1) ∧ a2.size = 0) ∨ (a0 = 4 ∧ a1 = 0 ∧ a2.size ≤ 200)
theorem empty_beq (s : ByteArray) : (s.toList == ([] : List UInt8)) = decide (s.size = 0) := by
  have h := toList_nil s
  by_cases c : s.size = 0
  · rw [h.2 c, decide_eq_true c]; rfl
  · rw [decide_eq_false c]
    exact beq_eq_false_iff_ne.2 fun e => c (h.1 e)
theorem check_ok (a0 a1 : Int) (a2 : ByteArray) (h : okV a0 a1 a2) : value_Check.f a0 a1 a2 = some true := by
  unfold value_Check.f
  rw [empty_beq]
  rcases h with ⟨rfl, h1, h2, h3⟩ | ⟨rfl, rfl, h1, h2⟩ | ⟨rfl, h1, h2⟩ | ⟨rfl, rfl, h1⟩
  · rw [if_pos rfl, if_pos (by omega), if_pos (by omega), decide_eq_true h3]
  · rw [if_neg (by omega), if_pos rfl, if_pos rfl, if_pos (by omega), utf8_ValidString.f, if_pos (by omega), Option.bind_some, h2]
  · rw [if_neg (by omega), if_neg (by omega), if_pos rfl, decide_eq_true h2]
    rcases h1 with rfl | rfl <;> rfl
  · rw [if_neg (by omega), if_neg (by omega), if_neg (by omega), if_pos rfl, if_pos rfl, decide_eq_true (by omega)]
theorem check_no (a0 a1 : Int) (a2 : ByteArray) (h : ¬ okV a0 a1 a2) : value_Check.f a0 a1 a2 = some false := by
  unfold value_Check.f
  unfold okV at h
  rw [empty_beq]
  by_cases c1 : a0 = 1
  · subst c1
    rw [if_pos rfl]
    by_cases d1 : a1 ≥ -9007199254740991
    · rw [if_pos d1]
      by_cases d2 : a1 ≤ 9007199254740991
      · rw [if_pos d2, decide_eq_false fun e => h (.inl ⟨rfl, d1, d2, e⟩)]
      · rw [if_neg d2]
    · rw [if_neg d1]
  rw [if_neg c1]
  by_cases c2 : a0 = 2
  · subst c2
    rw [if_pos rfl]
    by_cases d1 : a1 = 0
    · rw [if_pos d1]
      by_cases d2 : (a2.size : Int) ≤ 200
      · rw [if_pos d2, utf8_ValidString.f, if_pos (by omega), Option.bind_some]
        by_cases d3 : validD a2.data.toList = true
        · exact absurd (.inr (.inl ⟨rfl, d1, by omega, d3⟩)) h
        · rw [Bool.not_eq_true] at d3; rw [d3]
      · rw [if_neg d2]
    · rw [if_neg d1]
  rw [if_neg c2]
  by_cases c3 : a0 = 3
  · subst c3
    rw [if_pos rfl]
    by_cases d1 : a1 = 0
    · rw [if_pos d1, decide_eq_false fun e => h (.inr (.inr (.inl ⟨rfl, .inl d1, e⟩)))]
    rw [if_neg d1]
    by_cases d2 : a1 = 1
    · rw [if_pos d2, decide_eq_false fun e => h (.inr (.inr (.inl ⟨rfl, .inr d2, e⟩)))]
    rw [if_neg d2]
  rw [if_neg c3]
  by_cases c4 : a0 = 4
  · subst c4
    rw [if_pos rfl]
    by_cases d1 : a1 = 0
    · rw [if_pos d1, decide_eq_false fun e => h (.inr (.inr (.inr ⟨rfl, d1, by omega⟩)))]
    rw [if_neg d1]
  rw [if_neg c4]
end Go.Proofs.YtkdndabpaajkaaaGreatDoor.U8
namespace Go.Proofs.YtkdndabpaajkaaaGreatDoor.U8
open Go.RowKit Go.Proofs.YtkdndabpaajkaaaGreatDoor.A Go.Proofs.YtkdndabpaajkaaaGreatDoorW.PrintWords Go.Proofs.YtkdndabpaajkaaaGreatDoorW.PrintLast Go.Lib
set_option linter.unusedVariables false
set_option linter.unusedSimpArgs false
def foldN (v : Int) : Nat := if v < 0 then (-2 * v - 1).toNat else (2 * v).toNat
def unf (n : Int) : Int := if n % 2 = 1 then -(n / 2) - 1 else n / 2
theorem unf_fold (v : Int) : unf (foldN v : Int) = v := by
  unfold unf foldN
  by_cases h : v < 0
  · rw [if_pos h, if_pos (by omega)]; omega
  · rw [if_neg h, if_neg (by omega)]; omega
theorem fold_unf (n : Nat) : foldN (unf (n : Int)) = n := by
  unfold unf foldN
  by_cases h : (n : Int) % 2 = 1
  · rw [if_pos h, if_pos (by omega)]; omega
  · rw [if_neg h, if_neg (by omega)]; omega
def textL (a0 a1 : Int) (a2 : ByteArray) : List UInt8 :=
  encN a0.toNat ++ (if a0 = 1 then encN (foldN a1) else if a0 = 3 then [UInt8.ofNat a1.toNat] else encN a2.size ++ a2.data.toList)
theorem numS (n : Nat) : (strOfNums (numB n)).data.toList = encN n := rfl
theorem numS_size (n : Nat) : (strOfNums (numB n)).size = szOf n := by rw [size_len, numS, encN_len]
theorem one1 (n : Nat) (h : n ≤ 4611686018427387903) (k : Nat) : quic_one.f (k + 20) 1 (n : Int) ⟨#[]⟩ = some (strOfNums (numB n), true) := by
  unfold quic_one.f
  rw [if_pos rfl, numq n h k, Option.bind_some, if_pos (by omega), if_pos (by omega), empty_beq]; rfl
theorem one2 (v : Int) (h0 : -9007199254740991 ≤ v) (h1 : v ≤ 9007199254740991) (k : Nat) : quic_one.f (k + 20) 2 v ⟨#[]⟩ = some (strOfNums (numB (foldN v)), true) := by
  have hw : quic_whole.f v = some true := by unfold quic_whole.f; rw [if_pos (by omega), decide_eq_true (by omega)]
  have hf : quic_fold.f v = some (foldN v : Int) := by
    unfold quic_fold.f foldN
    by_cases c : v < 0
    · rw [if_pos c, if_pos c, w64 (x := (-2) * v) (by omega) (by omega), w64 (by omega) (by omega), Int.toNat_of_nonneg (by omega)]
    · rw [if_neg c, if_neg c, w64 (by omega) (by omega), Int.toNat_of_nonneg (by omega)]
  have hn : foldN v ≤ 4611686018427387903 := by unfold foldN; split <;> omega
  unfold quic_one.f quic_Whole.f
  rw [if_neg (by omega), if_pos rfl, hw, Option.bind_some, if_pos rfl, hf, Option.bind_some, numq _ hn k, Option.bind_some, Option.bind_some, Option.bind_some, if_pos rfl, empty_beq]; rfl
theorem one3 (b : Int) (h : b = 0 ∨ b = 1) (k : Nat) : quic_one.f k 3 b ⟨#[]⟩ = some (⟨#[UInt8.ofNat b.toNat]⟩, true) := by
  unfold quic_one.f
  rw [if_neg (by omega), if_neg (by omega), if_pos rfl, Option.bind_some, empty_beq]
  rcases h with rfl | rfl <;> rfl
theorem one4 (S : ByteArray) (h : S.size ≤ 200) (k : Nat) : quic_one.f (k + 20) 4 0 S = some (strOfNums (numB S.size) ++ S, true) := by
  unfold quic_one.f quic_text.f
  have := szOf_pos S.size
  rw [if_neg (by omega), if_neg (by omega), if_neg (by omega), if_pos rfl, numq _ (by omega) k, Option.bind_some, if_pos (by rw [numS_size]; omega), Option.bind_some, if_pos (by omega)]; rfl
theorem put2 (k : Nat) (x y : S147) (a b : ByteArray) (hx : quic_one.f k x.f0 x.f1 x.f2 = some (a, true)) (hy : quic_one.f k y.f0 y.f1 y.f2 = some (b, true)) (ha : a.size ≤ 1000000) (hb : b.size ≤ 1000000) :
    quic_Put.f k ([x] ++ [y]) = some (⟨(a.data.toList ++ b.data.toList).toArray⟩, 0) := by
  unfold quic_Put.f
  show (if 2 ≤ 4096 then quic_Put.go k [x, y] [] else _) = _
  rw [if_pos (by omega), quic_Put.go, hx, Option.bind_some, if_pos rfl, if_pos (by show 0 + a.size ≤ _; omega), quic_Put.go, hy, Option.bind_some, if_pos rfl, if_pos (by rw [List.nil_append, ← size_len]; show a.size + b.size ≤ _; omega), quic_Put.go, List.nil_append]
theorem vtext_q (a0 a1 : Int) (a2 : ByteArray) (h : okV a0 a1 a2) (k : Nat) : value_Text.f (k + 20) a0 a1 a2 = some ⟨(textL a0 a1 a2).toArray⟩ := by
  unfold value_Text.f textL
  rw [check_ok _ _ _ h, Option.bind_some, if_pos rfl, Option.bind_some]
  have hl : ∀ x : S147, ([x] : List S147).length < 4398046511104 := fun x => by show 1 < _; omega
  have hz : ∀ n : Nat, (strOfNums (numB n)).size ≤ 1000 := fun n => by rw [numS_size]; have := szOf_pos n; omega
  rcases h with ⟨rfl, h1, h2, h3⟩ | ⟨rfl, rfl, h1, h2⟩ | ⟨rfl, h1, h2⟩ | ⟨rfl, rfl, h1⟩
  · rw [if_pos rfl, if_pos (hl _), put2 _ _ _ _ _ (one1 1 (by omega) k) (one2 a1 h1 h2 k) (by have := hz 1; omega) (by have := hz (foldN a1); omega), Option.bind_some, if_pos rfl]; rfl
  · rw [if_neg (by omega), if_neg (by omega), if_pos (hl _), put2 _ _ _ _ _ (one1 2 (by omega) k) (one4 a2 h1 k) (by have := hz 2; omega) (by rw [ByteArray.size_append]; have := hz a2.size; omega), Option.bind_some, if_neg (by omega), if_neg (by omega), ByteArray.data_append, Array.toList_append]; rfl
  · rw [if_neg (by omega), if_pos rfl, if_pos (hl _), put2 _ _ _ _ _ (one1 3 (by omega) k) (one3 a1 h1 (k + 20)) (by have := hz 3; omega) (by show 1 ≤ _; omega), Option.bind_some, if_neg (by omega), if_pos rfl]; rfl
  · rw [if_neg (by omega), if_neg (by omega), if_pos (hl _), put2 _ _ _ _ _ (one1 4 (by omega) k) (one4 a2 h1 k) (by have := hz 4; omega) (by rw [ByteArray.size_append]; have := hz a2.size; omega), Option.bind_some, if_neg (by omega), if_neg (by omega), ByteArray.data_append, Array.toList_append]; rfl
theorem get_ok (s : ByteArray) : 0 ≤ (getS s).1 ∧ (getS s).1 ≤ 4611686018427387903 ∧ (getS s).2.1.size ≤ s.size := by
  unfold getS
  have hp := pow_le8 (byt s.data.toList 0 / 64) (by have := byt_lt s.data.toList 0; omega)
  have hb := be_max s.data.toList (2 ^ (byt s.data.toList 0 / 64) - 1) (by omega)
  have z : (⟨#[]⟩ : ByteArray).size = 0 := rfl
  repeat' split
  all_goals (refine ⟨?_, ?_, ?_⟩)
  all_goals first | (simp only; omega) | skip
  all_goals simp [ByteArray.size_extract]
theorem and_one (x : Int) (h0 : 0 ≤ x) (h1 : x ≤ 4611686018427387903) : Go.bits .and .i64 x 1 = x % 2 := by
  have e63 : (2 : Int) ^ 63 = 9223372036854775808 := by decide
  have h := bits_mask .i64 63 (by decide) (fun n h0 h1 => by rw [e63] at h1; rw [IntKind.wrap_i64]; omega) 1 (by decide) x h0 (by omega)
  have e : ((2 : Int) ^ 1 - 1) = 1 := by decide
  rw [e] at h
  rw [h]
  rfl
def takeX (s : ByteArray) (q : Int) : Int × Int × ByteArray × ByteArray × Int :=
  if q = 4 then
    (if (getS s).2.2 = 0 then
      (if (getS s).1 > 65536 then (4, 0, ⟨#[]⟩, ⟨#[]⟩, 2) else if (getS s).1 > ((getS s).2.1.size : Int) then (4, 0, ⟨#[]⟩, ⟨#[]⟩, 7)
        else (4, 0, (getS s).2.1.extract 0 (getS s).1.toNat, (getS s).2.1.extract (getS s).1.toNat (getS s).2.1.size, 0))
      else (4, 0, ⟨#[]⟩, ⟨#[]⟩, (getS s).2.2))
  else if q = 3 then (if s.size = 0 then (3, 0, ⟨#[]⟩, ⟨#[]⟩, 7) else if byt s.data.toList 0 > 1 then (3, 0, ⟨#[]⟩, ⟨#[]⟩, 3) else (3, (byt s.data.toList 0 : Int), ⟨#[]⟩, s.extract 1 s.size, 0))
  else (2, unf (getS s).1, ⟨#[]⟩, (getS s).2.1, (getS s).2.2)
theorem takeX2 (s : ByteArray) : takeX s 2 = (2, unf (getS s).1, ⟨#[]⟩, (getS s).2.1, (getS s).2.2) := rfl
theorem takeX3 (s : ByteArray) : takeX s 3 = (if s.size = 0 then (3, 0, ⟨#[]⟩, ⟨#[]⟩, 7) else if byt s.data.toList 0 > 1 then (3, 0, ⟨#[]⟩, ⟨#[]⟩, 3) else (3, (byt s.data.toList 0 : Int), ⟨#[]⟩, s.extract 1 s.size, 0)) := rfl
theorem takeX4 (s : ByteArray) : takeX s 4 = (if (getS s).2.2 = 0 then
      (if (getS s).1 > 65536 then (4, 0, ⟨#[]⟩, ⟨#[]⟩, 2) else if (getS s).1 > ((getS s).2.1.size : Int) then (4, 0, ⟨#[]⟩, ⟨#[]⟩, 7)
        else (4, 0, (getS s).2.1.extract 0 (getS s).1.toNat, (getS s).2.1.extract (getS s).1.toNat (getS s).2.1.size, 0))
      else (4, 0, ⟨#[]⟩, ⟨#[]⟩, (getS s).2.2)) := rfl
theorem take_x (s : ByteArray) (hs : s.size < 1000000) (q : Int) (hq : q = 2 ∨ q = 3 ∨ q = 4) (k : Nat) : quic_take.f (k + 12) s q = some (takeX s q) := by
  have g := qget s hs k
  have ho := get_ok s
  have n24 : ¬ (2 : Int) = 4 := by omega
  have n23 : ¬ (2 : Int) = 3 := by omega
  have n34 : ¬ (3 : Int) = 4 := by omega
  rcases hq with rfl | rfl | rfl
  · rw [takeX2]
    unfold quic_take.f quic_unfold.f unf
    rw [if_neg n24, if_neg n23, if_pos rfl, g, Option.bind_some, and_one _ ho.1 ho.2.1]
    by_cases c : (getS s).1 % 2 = 1
    · rw [if_pos c, if_pos c, Option.bind_some, w64 (x := -((getS s).1 / 2)) (by omega) (by omega), w64 (by omega) (by omega)]
    · rw [if_neg c, if_neg c, Option.bind_some]
  · rw [takeX3]
    unfold quic_take.f quic_getFlag.f
    rw [if_neg n34, if_pos rfl]
    by_cases hz : s.size = 0
    · rw [if_pos ((toList_nil s).2 hz), if_pos hz]; rfl
    rw [if_neg (fun h => hz ((toList_nil s).1 h)), if_neg hz, if_pos (show (0 : Int) < (s.size : Int) by omega), show bt s 0 = (byt s.data.toList 0 : Int) from bt_byt s 0]
    by_cases c : byt s.data.toList 0 > 1
    · rw [if_pos (show ((byt s.data.toList 0 : Nat) : Int) > 1 by omega), if_pos c]; rfl
    · rw [if_neg (show ¬ ((byt s.data.toList 0 : Nat) : Int) > 1 by omega), if_neg c, if_pos (show (1 : Int) ≤ (s.size : Int) by omega), w64 (by omega) (by omega)]; rfl
  · rw [takeX4]
    unfold quic_take.f quic_getText.f
    rw [if_pos rfl, g, Option.bind_some]
    by_cases hz : (getS s).2.2 = 0
    · rw [if_pos hz, if_pos hz]
      by_cases c1 : (getS s).1 > 65536
      · rw [if_pos c1, if_pos c1]; rfl
      rw [if_neg c1, if_neg c1]
      by_cases c2 : (getS s).1 > ((getS s).2.1.size : Int)
      · rw [if_pos c2, if_pos c2]; rfl
      · rw [if_neg c2, if_neg c2, if_pos ho.1, if_pos (show (getS s).1 ≤ ((getS s).2.1.size : Int) by omega)]; rfl
    · rw [if_neg hz, if_neg hz]; rfl
theorem takes_q (k : Nat) (s : ByteArray) (q n : Int) (S rest : ByteArray) (e : Int) (hq : 1 ≤ q ∧ q ≤ 4) (h : quic_take.f (k + 1) s q = some (q, n, S, rest, e)) :
    quic_Take.f (k + 4) s [q] = some (if e = 0 then ([⟨q, n, S⟩], rest, 0) else ([], ⟨#[]⟩, e)) := by
  have hl : (([q] : List Int).length : Int) = 1 := rfl
  have hr : rd [q] 0 = q := rfl
  have w : wrap64 (0 + 1) = 1 := by unfold wrap64; omega
  unfold quic_Take.f
  rw [hl, if_neg (by omega), quic_Take.l0, hl, if_pos (by omega), if_pos (by omega), if_pos (by omega), hr, if_neg (by omega), if_neg (by omega), w]
  rw [quic_Take.l0, if_neg (by omega), hl, quic_Take.l1, if_pos (by omega), if_pos (by omega), hl, if_pos (by omega), hr, h]
  simp only [Option.bind_some]
  by_cases hz : e = 0
  · rw [if_pos hz, if_pos hz, if_pos (by decide), w, quic_Take.l1, if_neg (by omega)]
    rfl
  · rw [if_neg hz, if_neg hz]
instance (a0 a1 : Int) (a2 : ByteArray) : Decidable (okV a0 a1 a2) := by unfold okV; infer_instance
def hw (n : Int) : Int := if n = 1 then 2 else if n = 3 then 3 else if n = 2 then 4 else if n = 4 then 4 else 0
theorem how_q (n : Int) : value_how.f n = some (hw n) := by
  unfold value_how.f hw
  repeat' split
  all_goals rfl
theorem hw_in (n : Int) : (n = 1 ∧ hw n = 2) ∨ (n = 3 ∧ hw n = 3) ∨ ((n = 2 ∨ n = 4) ∧ hw n = 4) ∨ ((n ≠ 1 ∧ n ≠ 2 ∧ n ≠ 3 ∧ n ≠ 4) ∧ hw n = 0) := by
  unfold hw
  repeat' split
  all_goals omega
theorem takeX_q (s : ByteArray) (q : Int) (hq : q = 2 ∨ q = 3 ∨ q = 4) : (takeX s q).1 = q := by
  unfold takeX
  rcases hq with rfl | rfl | rfl
  · rw [if_neg (by omega), if_neg (by omega)]
  · rw [if_neg (by omega), if_pos rfl]
    repeat' split
    all_goals rfl
  · rw [if_pos rfl]
    repeat' split
    all_goals rfl
def readX (s : ByteArray) : Int × Int × ByteArray × ByteArray × Int :=
  if (getS s).2.2 = 0 then
    (if hw (getS s).1 = 0 then (0, 0, ⟨#[]⟩, ⟨#[]⟩, 8)
    else if (takeX (getS s).2.1 (hw (getS s).1)).2.2.2.2 = 0 then
      (if okV (getS s).1 (takeX (getS s).2.1 (hw (getS s).1)).2.1 (takeX (getS s).2.1 (hw (getS s).1)).2.2.1 then
        ((getS s).1, (takeX (getS s).2.1 (hw (getS s).1)).2.1, (takeX (getS s).2.1 (hw (getS s).1)).2.2.1, (takeX (getS s).2.1 (hw (getS s).1)).2.2.2.1, 0)
      else (0, 0, ⟨#[]⟩, ⟨#[]⟩, 3))
    else (0, 0, ⟨#[]⟩, ⟨#[]⟩, (takeX (getS s).2.1 (hw (getS s).1)).2.2.2.2))
  else (0, 0, ⟨#[]⟩, ⟨#[]⟩, (getS s).2.2)
theorem read_x (s : ByteArray) (hs : s.size < 1000000) (k : Nat) : value_Read.f (k + 20) s = some (readX s) := by
  have g := qget s hs (k + 8)
  have ho := get_ok s
  unfold value_Read.f readX
  rw [show k + 20 = k + 8 + 12 by omega, g, Option.bind_some]
  by_cases hz : (getS s).2.2 = 0
  · rw [if_pos hz, if_pos hz, how_q, Option.bind_some]
    by_cases h0 : hw (getS s).1 = 0
    · rw [if_pos h0, if_pos h0]
    · rw [if_neg h0, if_neg h0, Option.bind_some]
      have hq : hw (getS s).1 = 2 ∨ hw (getS s).1 = 3 ∨ hw (getS s).1 = 4 := by have := hw_in (getS s).1; omega
      have t := take_x (getS s).2.1 (by omega) _ hq (k + 5)
      have t1 := takeX_q (getS s).2.1 _ hq
      generalize hT : takeX (getS s).2.1 (hw (getS s).1) = T at *
      obtain ⟨q, n, S, rest, e⟩ := T
      simp only at t1
      subst t1
      rw [show k + 8 + 12 = (k + 16) + 4 by omega, takes_q (k + 16) _ _ n S rest e (by omega) t, Option.bind_some]
      by_cases he : e = 0
      · subst he
        dsimp only
        rw [if_pos rfl, if_pos rfl]
        dsimp only
        rw [if_pos rfl, if_pos (by show (0 : Int) < 1; omega)]
        have r1 : rd_T147 [⟨hw (getS s).1, n, S⟩] 0 = ⟨hw (getS s).1, n, S⟩ := rfl
        rw [r1]
        dsimp only
        by_cases hv : okV (getS s).1 n S
        · rw [check_ok _ _ _ hv, Option.bind_some, if_pos rfl, if_pos hv]
        · rw [check_no _ _ _ hv, Option.bind_some, if_neg (by decide), if_neg hv]
      · dsimp only
        rw [if_neg he, if_neg he]
        dsimp only
        rw [if_neg he]
  · rw [if_neg hz, if_neg hz]
end Go.Proofs.YtkdndabpaajkaaaGreatDoor.U8
namespace Go.Proofs.YtkdndabpaajkaaaGreatDoor.U8
open Go.RowKit Go.Proofs.YtkdndabpaajkaaaGreatDoor.A Go.Proofs.YtkdndabpaajkaaaGreatDoorW.PrintWords Go.Proofs.YtkdndabpaajkaaaGreatDoorW.PrintLast Go.Lib
set_option linter.unusedVariables false
set_option linter.unusedSimpArgs false
theorem read_at (s u rest a2 : ByteArray) (a0 a1 q : Int) (g : getS s = (a0, u, 0)) (h : hw a0 = q) (hq : q ≠ 0) (t : takeX u q = (q, a1, a2, rest, 0)) (hv : okV a0 a1 a2) : readX s = (a0, a1, a2, rest, 0) := by
  unfold readX
  rw [g]
  dsimp only
  rw [if_pos rfl, h, if_neg hq, t]
  dsimp only
  rw [if_pos rfl, if_pos hv]
theorem ext_all (s : ByteArray) (n : Nat) (a b : List UInt8) (h : s.data.toList = a ++ b) (hn : a.length = n) : (s.extract 0 n).data.toList = a ∧ (s.extract n s.size).data.toList = b := by
  refine ⟨?_, by rw [extract_toList, h, ← hn, List.drop_left]⟩
  have hl := congrArg List.length h
  rw [List.length_append, ← size_len] at hl
  have := ext_part s 0 n (by omega)
  rw [Nat.zero_add] at this
  rw [this, h, List.drop_zero, ← hn, List.take_left]
theorem read_fwd (s : ByteArray) (a0 a1 : Int) (a2 : ByteArray) (h : okV a0 a1 a2) (r : List UInt8) (he : s.data.toList = textL a0 a1 a2 ++ r) : ∃ rest : ByteArray, rest.data.toList = r ∧ readX s = (a0, a1, a2, rest, 0) := by
  have h' := h
  unfold textL at he
  rw [List.append_assoc] at he
  have ha : 0 ≤ a0 ∧ a0 ≤ 4 := by unfold okV at h; omega
  obtain ⟨g, g2, g3⟩ := get_fwd s a0.toNat (by omega) _ he
  rw [Int.toNat_of_nonneg ha.1] at g
  rw [← extract_toList] at g2
  generalize s.extract (szOf a0.toNat) s.size = u at *
  rcases h with ⟨rfl, h1, h2, h3⟩ | ⟨rfl, rfl, h1, h2⟩ | ⟨rfl, h1, h2⟩ | ⟨rfl, rfl, h1⟩
  · rw [if_pos rfl] at g2
    have hf : foldN a1 ≤ 4611686018427387903 := by unfold foldN; split <;> omega
    obtain ⟨k1, k2, k3⟩ := get_fwd u (foldN a1) hf r g2
    refine ⟨u.extract (szOf (foldN a1)) u.size, by rw [extract_toList]; exact k2, ?_⟩
    refine read_at s u _ a2 1 a1 2 g rfl (by omega) ?_ h'
    rw [takeX2, k1, unf_fold, ba_nil a2 h3]
  · rw [if_neg (by omega), if_neg (by omega), List.append_assoc] at g2
    have hp := szOf_pos a2.size
    obtain ⟨k1, k2, k3⟩ := get_fwd u a2.size (by omega) _ g2
    rw [← extract_toList] at k2
    generalize u.extract (szOf a2.size) u.size = v at *
    obtain ⟨m1, m2⟩ := ext_all v a2.size _ _ k2 (size_len a2).symm
    have hl := congrArg List.length k2
    rw [List.length_append, ← size_len, ← size_len] at hl
    refine ⟨v.extract a2.size v.size, m2, ?_⟩
    refine read_at s u _ a2 2 0 4 g rfl (by omega) ?_ h'
    rw [takeX4, k1]
    dsimp only
    rw [if_pos rfl, if_neg (by omega), if_neg (by omega), Int.toNat_natCast, baext m1]
  · rw [if_neg (by omega), if_pos rfl] at g2
    obtain ⟨b0, hz⟩ := byt_cons u (UInt8.ofNat a1.toNat) r g2
    have hb : byt u.data.toList 0 = a1.toNat := by rw [b0, UInt8.toNat_ofNat']; omega
    refine ⟨u.extract 1 u.size, by rw [extract_toList, g2]; rfl, ?_⟩
    refine read_at s u _ a2 3 a1 3 g rfl (by omega) ?_ h'
    rw [takeX3, if_neg hz, if_neg (by omega), hb, Int.toNat_of_nonneg (by omega), ba_nil a2 h2]
  · rw [if_neg (by omega), if_neg (by omega), List.append_assoc] at g2
    have hp := szOf_pos a2.size
    obtain ⟨k1, k2, k3⟩ := get_fwd u a2.size (by omega) _ g2
    rw [← extract_toList] at k2
    generalize u.extract (szOf a2.size) u.size = v at *
    obtain ⟨m1, m2⟩ := ext_all v a2.size _ _ k2 (size_len a2).symm
    have hl := congrArg List.length k2
    rw [List.length_append, ← size_len, ← size_len] at hl
    refine ⟨v.extract a2.size v.size, m2, ?_⟩
    refine read_at s u _ a2 4 0 4 g rfl (by omega) ?_ h'
    rw [takeX4, k1]
    dsimp only
    rw [if_pos rfl, if_neg (by omega), if_neg (by omega), Int.toNat_natCast, baext m1]
theorem take_back (u : ByteArray) (q N : Int) (S rest : ByteArray) (hq : q = 2 ∨ q = 3 ∨ q = 4) (h : takeX u q = (q, N, S, rest, 0)) :
    u.data.toList = (if q = 2 then encN (foldN N) else if q = 3 then [UInt8.ofNat N.toNat] else encN S.size ++ S.data.toList) ++ rest.data.toList := by
  rcases hq with rfl | rfl | rfl
  · rw [takeX2] at h
    simp only [Prod.mk.injEq, true_and] at h
    obtain ⟨h1, h2, h3, h4⟩ := h
    have hg : getS u = ((getS u).1, rest, 0) := by rw [← h3, ← h4]
    obtain ⟨g1, g2, g3⟩ := get_back u _ _ hg
    have hf := fold_unf (getS u).1.toNat
    rw [Int.toNat_of_nonneg g1, h1] at hf
    rw [if_pos rfl, hf]; exact g3
  · rw [takeX3] at h
    by_cases h0 : u.size = 0
    · rw [if_pos h0] at h; simp at h
    rw [if_neg h0] at h
    by_cases h1 : byt u.data.toList 0 > 1
    · rw [if_pos h1] at h; simp at h
    rw [if_neg h1] at h
    simp only [Prod.mk.injEq, true_and] at h
    obtain ⟨rfl, rfl, rfl, _⟩ := h
    obtain ⟨b, e, hb⟩ := drop_byt u 0 (by omega)
    rw [List.drop_zero] at e
    rw [if_neg (by omega), if_pos rfl, extract_toList, Int.toNat_natCast, hb, UInt8.ofNat_toNat]
    exact e
  · rw [takeX4] at h
    by_cases h0 : (getS u).2.2 = 0
    · rw [if_pos h0] at h
      by_cases h1 : (getS u).1 > 65536
      · rw [if_pos h1] at h; simp at h
      rw [if_neg h1] at h
      by_cases h2 : (getS u).1 > ((getS u).2.1.size : Int)
      · rw [if_pos h2] at h; simp at h
      rw [if_neg h2] at h
      simp only [Prod.mk.injEq, true_and] at h
      obtain ⟨_, rfl, rfl, _⟩ := h
      have hg : getS u = ((getS u).1, (getS u).2.1, 0) := by rw [← h0]
      obtain ⟨g1, g2, g3⟩ := get_back u _ _ hg
      generalize (getS u).1 = n at *
      generalize (getS u).2.1 = v at *
      obtain ⟨m1, m2⟩ := ext_all v n.toNat (v.data.toList.take n.toNat) (v.data.toList.drop n.toNat) (List.take_append_drop ..).symm (by rw [List.length_take, ← size_len]; omega)
      rw [if_neg (by omega), if_neg (by omega), m1, m2, List.append_assoc, List.take_append_drop]
      have hsz : (v.extract 0 n.toNat).size = n.toNat := by rw [ByteArray.size_extract]; omega
      rw [hsz]; exact g3
    · rw [if_neg h0] at h
      simp only [Prod.mk.injEq, true_and] at h
      exact absurd h.2.2.2 h0
theorem eta_t (T : Int × Int × ByteArray × ByteArray × Int) (q : Int) (h1 : T.1 = q) (h2 : T.2.2.2.2 = 0) : T = (q, T.2.1, T.2.2.1, T.2.2.2.1, 0) := by
  obtain ⟨a, b, c, d, e⟩ := T
  dsimp only at h1 h2
  rw [h1, h2]
theorem read_back (s : ByteArray) (K N : Int) (S rest : ByteArray) (h : readX s = (K, N, S, rest, 0)) : okV K N S ∧ s.data.toList = textL K N S ++ rest.data.toList := by
  unfold readX at h
  by_cases h0 : (getS s).2.2 = 0
  · rw [if_pos h0] at h
    by_cases h1 : hw (getS s).1 = 0
    · rw [if_pos h1] at h; simp at h
    rw [if_neg h1] at h
    by_cases h2 : (takeX (getS s).2.1 (hw (getS s).1)).2.2.2.2 = 0
    · rw [if_pos h2] at h
      by_cases h3 : okV (getS s).1 (takeX (getS s).2.1 (hw (getS s).1)).2.1 (takeX (getS s).2.1 (hw (getS s).1)).2.2.1
      · rw [if_pos h3] at h
        simp only [Prod.mk.injEq] at h
        obtain ⟨rfl, rfl, rfl, rfl, _⟩ := h
        refine ⟨h3, ?_⟩
        have hg : getS s = ((getS s).1, (getS s).2.1, 0) := by rw [← h0]
        obtain ⟨g1, g2, g3⟩ := get_back s _ _ hg
        generalize (getS s).1 = n at *
        generalize (getS s).2.1 = u at *
        have hin := hw_in n
        have hq : hw n = 2 ∨ hw n = 3 ∨ hw n = 4 := by omega
        have ht := take_back u (hw n) _ _ _ hq (eta_t _ _ (takeX_q u (hw n) hq) h2)
        rw [g3]
        unfold textL
        rw [List.append_assoc]
        congr 1
        generalize takeX u (hw n) = T at *
        rcases hin with ⟨e1, e2⟩ | ⟨e1, e2⟩ | ⟨e1, e2⟩ | ⟨e1, e2⟩
        · rw [e2, if_pos rfl] at ht
          rw [if_pos e1]; exact ht
        · rw [e2, if_neg (by omega), if_pos rfl] at ht
          rw [if_neg (by omega), if_pos e1]; exact ht
        · rw [e2, if_neg (by omega), if_neg (by omega)] at ht
          rw [if_neg (by omega), if_neg (by omega)]; exact ht
        · exact absurd e2 h1
      · rw [if_neg h3] at h; simp at h
    · rw [if_neg h2] at h
      simp only [Prod.mk.injEq] at h
      exact absurd h.2.2.2.2 h2
  · rw [if_neg h0] at h
    simp only [Prod.mk.injEq] at h
    exact absurd h.2.2.2.2 h0
end Go.Proofs.YtkdndabpaajkaaaGreatDoor.U8
namespace Go.Proofs.YtkdndabpaajkaaaGreatDoor.U8
open Go.RowKit Go.Proofs.YtkdndabpaajkaaaGreatDoor.A Go.Proofs.YtkdndabpaajkaaaGreatDoorW.PrintWords Go.Proofs.YtkdndabpaajkaaaGreatDoorW.PrintLast Go.Lib
set_option linter.unusedVariables false
set_option linter.unusedSimpArgs false
abbrev Itm := S147
def itemL (x : Itm) : List UInt8 := if x.f0 = 1 then encN x.f1.toNat else if x.f0 = 3 then [UInt8.ofNat x.f1.toNat] else encN x.f2.size ++ x.f2.data.toList
def okI (x : Itm) : Prop := (x.f0 = 1 ∧ 0 ≤ x.f1 ∧ x.f1 ≤ 4611686018427387903 ∧ x.f2 = ⟨#[]⟩) ∨ (x.f0 = 3 ∧ (x.f1 = 0 ∨ x.f1 = 1) ∧ x.f2 = ⟨#[]⟩) ∨ (x.f0 = 4 ∧ x.f1 = 0 ∧ x.f2.size ≤ 65536)
def rowL (l : List Itm) : List UInt8 := (l.map itemL).flatten
def q134 (q : Int) : Prop := q = 1 ∨ q = 3 ∨ q = 4
theorem get_ev (s : ByteArray) (hs : s.size < 1000000) : Evn (fun k => quic_Get.f k s) (getS s) := Evn.of 12 (fun k hk => by
  have := qget s hs (k - 12)
  rw [show k - 12 + 12 = k by omega] at this; exact this)
theorem num_ev (n : Nat) (h : n ≤ 4611686018427387903) : Evn (fun k => quic_Num.f k (n : Int)) (bl (encN n)) := Evn.of 20 (fun k hk => by
  have := numq n h (k - 20)
  rw [show k - 20 + 20 = k by omega] at this
  rw [this]; exact congrArg some (bl_eta _).symm)
theorem one_ev (x : Itm) (h : okI x) : Evn (fun k => quic_one.f k x.f0 x.f1 x.f2) (bl (itemL x), true) := by
  obtain ⟨q, n, S⟩ := x
  rcases h with ⟨rfl, h0, h1, rfl⟩ | ⟨rfl, h0, rfl⟩ | ⟨rfl, rfl, h0⟩
  · refine Evn.of 20 (fun k hk => ?_)
    have := one1 n.toNat (by dsimp only at h1; omega) (k - 20)
    rw [show k - 20 + 20 = k by omega, Int.toNat_of_nonneg h0] at this
    show quic_one.f k 1 n ⟨#[]⟩ = _
    rw [this]
    exact congrArg (fun z => some (z, true)) (bl_eta _).symm
  · refine Evn.of 0 (fun k hk => ?_)
    show quic_one.f k 3 n ⟨#[]⟩ = _
    rw [one3 n h0 k]; rfl
  · refine Evn.of 20 (fun k hk => ?_)
    have hp := szOf_pos S.size
    have hn := numq S.size (by dsimp only at h0; omega) (k - 20)
    rw [show k - 20 + 20 = k by omega] at hn
    dsimp only at h0
    show quic_one.f k 4 0 S = _
    unfold quic_one.f quic_text.f
    rw [if_neg (by omega), if_neg (by omega), if_neg (by omega), if_pos rfl, hn, Option.bind_some, if_pos (by rw [numS_size]; omega), Option.bind_some, if_pos (by omega)]
    refine congrArg some (Prod.ext ?_ rfl)
    refine bl_ext ?_
    rw [ByteArray.data_append, Array.toList_append]; rfl
theorem item_len (x : Itm) (h : okI x) : (itemL x).length ≤ 65544 := by
  unfold itemL
  rcases h with ⟨h, _, _, _⟩ | ⟨h, _, _⟩ | ⟨h, _, hz⟩
  · rw [if_pos h, encN_len]; have := szOf_pos x.f1.toNat; omega
  · rw [if_neg (by omega), if_pos h]; show 1 ≤ 65544; omega
  · rw [if_neg (by omega), if_neg (by omega), List.length_append, encN_len, ← size_len]; have := szOf_pos x.f2.size; omega
theorem put_go : ∀ (l : List Itm) (acc : List UInt8), (∀ x ∈ l, okI x) → acc.length + 65544 * l.length ≤ 140737488355328 → Evn (fun k => quic_Put.go k l acc) (bl (acc ++ rowL l), 0)
  | [], acc, h, hl => by
    unfold rowL
    rw [List.map_nil, List.flatten_nil, List.append_nil]
    exact Evn.ret _
  | x :: l, acc, h, hl => by
    have hx := h x List.mem_cons_self
    have hi := item_len x hx
    rw [List.length_cons] at hl
    have ih := put_go l (acc ++ itemL x) (fun y hy => h y (List.mem_cons_of_mem _ hy)) (by rw [List.length_append]; omega)
    refine Evn.bind (one_ev x hx) (Evn.pos rfl (Evn.pos (by rw [bl_size]; omega) ?_))
    refine Evn.val ?_ ih
    unfold rowL
    rw [List.map_cons, List.flatten_cons, List.append_assoc]
theorem put_ev (l : List Itm) (h : ∀ x ∈ l, okI x) (hl : l.length ≤ 4096) : Evn (fun k => quic_Put.f k l) (bl (rowL l), 0) :=
  Evn.pos hl (put_go l [] h (by show 0 + _ ≤ _; omega))
def takeI (s : ByteArray) (q : Int) : Int × Int × ByteArray × ByteArray × Int := if q = 1 then (1, (getS s).1, ⟨#[]⟩, (getS s).2.1, (getS s).2.2) else takeX s q
def takeR : List Int → List Itm → ByteArray → List Itm × ByteArray × Int
  | [], acc, s => (acc, s, 0)
  | q :: qs, acc, s => if (takeI s q).2.2.2.2 = 0 then takeR qs (acc ++ [⟨(takeI s q).1, (takeI s q).2.1, (takeI s q).2.2.1⟩]) (takeI s q).2.2.2.1 else ([], ⟨#[]⟩, (takeI s q).2.2.2.2)
theorem take_ev (s : ByteArray) (hs : s.size < 1000000) (q : Int) (hq : q134 q) : Evn (fun k => quic_take.f k s q) (takeI s q) := by
  unfold takeI
  by_cases h1 : q = 1
  · subst h1
    rw [if_pos rfl]
    exact Evn.neg (by omega) (Evn.neg (by omega) (Evn.neg (by omega) (Evn.bind (get_ev s hs) (Evn.ret _))))
  · rw [if_neg h1]
    refine Evn.of 12 (fun k hk => ?_)
    have := take_x s hs q (by unfold q134 at hq; omega) (k - 12)
    rw [show k - 12 + 12 = k by omega] at this; exact this
theorem takeI_size (s : ByteArray) (q : Int) (hq : q134 q) : (takeI s q).2.2.2.1.size ≤ s.size := by
  have ho := (get_ok s).2.2
  unfold takeI
  rcases hq with rfl | rfl | rfl
  · rw [if_pos rfl]; exact ho
  · rw [if_neg (by omega), takeX3]
    split
    · exact Nat.zero_le _
    split
    · exact Nat.zero_le _
    · show (s.extract 1 s.size).size ≤ _
      rw [ByteArray.size_extract]; omega
  · rw [if_neg (by omega), takeX4]
    split
    · split
      · exact Nat.zero_le _
      split
      · exact Nat.zero_le _
      · show (ByteArray.extract _ _ _).size ≤ _
        rw [ByteArray.size_extract]; omega
    · exact Nat.zero_le _
theorem takeL1 (x0 : List Int) (hx : x0.length < 100000) : ∀ (qs pre : List Int) (s : ByteArray) (acc : List Itm), x0 = pre ++ qs → (∀ q ∈ qs, q134 q) → s.size < 1000000 → acc.length ≤ pre.length →
    Evn (fun k => quic_Take.l1 k s acc x0 (x0.length : Int) (pre.length : Int)) (takeR qs acc s)
  | [], pre, s, acc, e, hq, hs, ha => by
    rw [List.append_nil] at e
    subst e
    exact Evn.step (fun k => quic_Take.l1.eq_2 ..) (Evn.neg (by omega) (Evn.ret _))
  | q :: qs, pre, s, acc, e, hq, hs, ha => by
    have hlt : (pre.length : Int) < (x0.length : Int) := by rw [e]; exact ltp pre q qs
    have hrd : rd x0 (pre.length : Int) = q := by rw [e]; exact getDp pre q qs _
    have h1 := hq q List.mem_cons_self
    have hz := takeI_size s q h1
    refine Evn.step (fun k => quic_Take.l1.eq_2 ..) (Evn.pos hlt (Evn.pos (Int.natCast_nonneg _) (Evn.pos hlt ?_)))
    rw [hrd, w1p pre q (by omega), takeR]
    refine Evn.bind (take_ev s hs q h1) ?_
    by_cases h0 : (takeI s q).2.2.2.2 = 0
    · rw [if_pos h0]
      exact Evn.pos h0 (Evn.pos (by omega) (takeL1 x0 hx qs (pre ++ [q]) _ _ (by rw [e, List.append_assoc]; rfl) (fun y hy => hq y (List.mem_cons_of_mem _ hy)) (by omega) (by rw [snocLen, snocLen]; omega)))
    · rw [if_neg h0]
      exact Evn.neg h0 (Evn.ret _)
theorem takeR_ev (s : ByteArray) (hs : s.size < 1000000) (x0 : List Int) (hq : ∀ q ∈ x0, q134 q) (hx : x0.length ≤ 4096) : Evn (fun k => quic_Take.f k s x0) (takeR x0 [] s) := by
  refine Evn.neg (by omega) ?_
  refine Evn.loop (g := fun k i => quic_Take.l0 k s x0 [] x0 (x0.length : Int) i) x0 (by omega) (fun _ => True) (fun _ _ => takeR x0 [] s) ?_ ?_ x0 [] rfl trivial
  · intro _ hn
    exact Evn.step (fun k => quic_Take.l0.eq_2 ..) (Evn.neg hn (takeL1 x0 (by omega) x0 [] s [] rfl hq hs (Nat.le_refl _)))
  · intro pre x post e _ hlt h0 hw hget hmem ih
    have hrd : rd x0 (pre.length : Int) = x := hget _
    have h1 := hq x hmem
    unfold q134 at h1
    refine Evn.step (fun k => quic_Take.l0.eq_2 ..) (Evn.pos hlt (Evn.pos h0 (Evn.pos hlt ?_)))
    rw [hrd, hw]
    exact Evn.neg (by omega) (Evn.neg (by omega) (ih trivial))
theorem getS_fwd (n : Nat) (h : n ≤ 4611686018427387903) (r : List UInt8) : getS (bl (encN n ++ r)) = ((n : Int), bl r, 0) := by
  obtain ⟨g1, g2, g3⟩ := get_fwd (bl (encN n ++ r)) n h r rfl
  rw [g1]
  refine Prod.ext rfl (Prod.ext ?_ rfl)
  refine bl_ext ?_
  show ((bl (encN n ++ r)).extract (szOf n) (bl (encN n ++ r)).size).data.toList = r
  rw [extract_toList]; exact g2
theorem ofNat01 (b : Int) (h : b = 0 ∨ b = 1) : ((UInt8.ofNat b.toNat).toNat : Int) = b := by rcases h with rfl | rfl <;> rfl
theorem takeI_fwd (x : Itm) (h : okI x) (r : List UInt8) : takeI (bl (itemL x ++ r)) x.f0 = (x.f0, x.f1, x.f2, bl r, 0) := by
  obtain ⟨q, n, S⟩ := x
  unfold takeI itemL
  rcases h with ⟨rfl, h0, h1, rfl⟩ | ⟨rfl, h0, rfl⟩ | ⟨rfl, rfl, h0⟩
  · dsimp only at h0 h1 ⊢
    rw [if_pos rfl, if_pos rfl, getS_fwd _ (by omega), Int.toNat_of_nonneg h0]
  · dsimp only at h0 ⊢
    rw [if_neg (by omega), if_neg (by omega), if_pos rfl, takeX3, if_neg (by rw [bl_size, List.length_append]; show ¬ 1 + _ = 0; omega)]
    have e : byt (bl ([UInt8.ofNat n.toNat] ++ r)).data.toList 0 = (UInt8.ofNat n.toNat).toNat := rfl
    have e2 := ofNat01 n h0
    rw [e, if_neg (by omega), e2]
    refine Prod.ext rfl (Prod.ext rfl (Prod.ext rfl (Prod.ext ?_ rfl)))
    refine bl_ext ?_
    rw [extract_toList]; rfl
  · dsimp only at h0 ⊢
    rw [if_neg (by omega), if_neg (by omega), if_neg (by omega), takeX4, List.append_assoc, getS_fwd _ (by omega)]
    dsimp only
    have hz : (bl (S.data.toList ++ r)).size = S.size + r.length := by rw [bl_size, List.length_append, ← size_len]
    rw [if_pos rfl, if_neg (by omega), if_neg (by omega), Int.toNat_natCast]
    obtain ⟨m1, m2⟩ := ext_all (bl (S.data.toList ++ r)) S.size _ _ rfl (size_len S).symm
    refine Prod.ext rfl (Prod.ext rfl (Prod.ext (bl_ext m1) (Prod.ext (bl_ext m2) rfl)))
theorem takeI_back (s : ByteArray) (q : Int) (hq : q134 q) (h : (takeI s q).2.2.2.2 = 0) :
    okI ⟨(takeI s q).1, (takeI s q).2.1, (takeI s q).2.2.1⟩ ∧ (takeI s q).1 = q ∧ s.data.toList = itemL ⟨(takeI s q).1, (takeI s q).2.1, (takeI s q).2.2.1⟩ ++ (takeI s q).2.2.2.1.data.toList := by
  unfold takeI at h ⊢
  rcases hq with rfl | rfl | rfl
  · rw [if_pos rfl] at h ⊢
    dsimp only at h ⊢
    obtain ⟨g1, g2, g3⟩ := get_back s (getS s).1 (getS s).2.1 (by rw [← h])
    exact ⟨.inl ⟨rfl, g1, g2, rfl⟩, rfl, by unfold itemL; rw [if_pos rfl]; exact g3⟩
  · rw [if_neg (by omega)] at h ⊢
    have hb := take_back s 3 (takeX s 3).2.1 (takeX s 3).2.2.1 (takeX s 3).2.2.2.1 (by omega) (eta_t _ 3 (takeX_q s 3 (by omega)) h)
    rw [if_neg (by omega), if_pos rfl] at hb
    rw [takeX_q s 3 (by omega)]
    refine ⟨.inr (.inl ?_), rfl, by unfold itemL; rw [if_neg (by show ¬ (3 : Int) = 1; omega), if_pos rfl]; exact hb⟩
    dsimp only
    rw [takeX3] at h ⊢
    by_cases h0 : s.size = 0
    · rw [if_pos h0] at h; exact absurd h (by decide)
    rw [if_neg h0] at h ⊢
    by_cases h1 : byt s.data.toList 0 > 1
    · rw [if_pos h1] at h; exact absurd h (by decide)
    rw [if_neg h1]
    exact ⟨rfl, by show ((byt s.data.toList 0 : Nat) : Int) = 0 ∨ ((byt s.data.toList 0 : Nat) : Int) = 1; omega, rfl⟩
  · rw [if_neg (by omega)] at h ⊢
    have hb := take_back s 4 (takeX s 4).2.1 (takeX s 4).2.2.1 (takeX s 4).2.2.2.1 (by omega) (eta_t _ 4 (takeX_q s 4 (by omega)) h)
    rw [if_neg (by omega), if_neg (by omega)] at hb
    rw [takeX_q s 4 (by omega)]
    refine ⟨.inr (.inr ?_), rfl, by unfold itemL; rw [if_neg (by show ¬ (4 : Int) = 1; omega), if_neg (by show ¬ (4 : Int) = 3; omega)]; exact hb⟩
    dsimp only
    rw [takeX4] at h ⊢
    by_cases h0 : (getS s).2.2 = 0
    · rw [if_pos h0] at h ⊢
      by_cases h1 : (getS s).1 > 65536
      · rw [if_pos h1] at h; exact absurd h (by decide)
      rw [if_neg h1] at h ⊢
      by_cases h2 : (getS s).1 > ((getS s).2.1.size : Int)
      · rw [if_pos h2] at h; exact absurd h (by decide)
      rw [if_neg h2]
      refine ⟨rfl, rfl, ?_⟩
      show (ByteArray.extract _ _ _).size ≤ _
      rw [ByteArray.size_extract]; omega
    · rw [if_neg h0] at h; exact absurd h h0
theorem takeR_fwd : ∀ (l : List Itm) (acc : List Itm) (r : List UInt8), (∀ x ∈ l, okI x) → takeR (l.map (·.f0)) acc (bl (rowL l ++ r)) = (acc ++ l, bl r, 0)
  | [], acc, r, h => by rw [List.append_nil]; rfl
  | x :: l, acc, r, h => by
    have e : rowL (x :: l) ++ r = itemL x ++ (rowL l ++ r) := by unfold rowL; rw [List.map_cons, List.flatten_cons, List.append_assoc]
    have ih := takeR_fwd l (acc ++ [x]) r (fun y hy => h y (List.mem_cons_of_mem _ hy))
    rw [List.map_cons, e, takeR, takeI_fwd x (h x List.mem_cons_self)]
    dsimp only
    rw [if_pos rfl, ih, List.append_assoc]; rfl
theorem takeR_back : ∀ (qs : List Int) (acc : List Itm) (s : ByteArray) (row : List Itm) (rest : ByteArray), (∀ q ∈ qs, q134 q) → takeR qs acc s = (row, rest, 0) → ∃ l, row = acc ++ l ∧ l.map (·.f0) = qs ∧ (∀ x ∈ l, okI x) ∧ s.data.toList = rowL l ++ rest.data.toList
  | [], acc, s, row, rest, hq, h => by
    rw [takeR] at h
    simp only [Prod.mk.injEq] at h
    obtain ⟨rfl, rfl, _⟩ := h
    exact ⟨[], (List.append_nil _).symm, rfl, (fun x hx => by cases hx), rfl⟩
  | q :: qs, acc, s, row, rest, hq, h => by
    rw [takeR] at h
    by_cases h0 : (takeI s q).2.2.2.2 = 0
    · rw [if_pos h0] at h
      obtain ⟨k1, k2, k3⟩ := takeI_back s q (hq q List.mem_cons_self) h0
      obtain ⟨l, e1, e2, e3, e4⟩ := takeR_back qs _ _ row rest (fun y hy => hq y (List.mem_cons_of_mem _ hy)) h
      refine ⟨⟨(takeI s q).1, (takeI s q).2.1, (takeI s q).2.2.1⟩ :: l, ?_, ?_, ?_, ?_⟩
      · rw [e1, List.append_assoc]; rfl
      · rw [List.map_cons, e2]; exact congrArg (fun z => z :: qs) k2
      · intro x hx
        rcases List.mem_cons.1 hx with rfl | hx
        · exact k1
        · exact e3 x hx
      · unfold rowL at e4 ⊢
        rw [k3, e4, List.map_cons, List.flatten_cons, List.append_assoc]
    · rw [if_neg h0] at h
      obtain ⟨_, h⟩ := Prod.mk.inj h
      obtain ⟨_, h⟩ := Prod.mk.inj h
      exact absurd h h0
theorem takeR_size : ∀ (qs : List Int) (acc : List Itm) (s : ByteArray), (∀ q ∈ qs, q134 q) → (takeR qs acc s).2.1.size ≤ s.size
  | [], acc, s, hq => Nat.le_refl _
  | q :: qs, acc, s, hq => by
    rw [takeR]
    have h1 := takeI_size s q (hq q List.mem_cons_self)
    split
    · exact Nat.le_trans (takeR_size qs _ _ (fun y hy => hq y (List.mem_cons_of_mem _ hy))) h1
    · exact Nat.zero_le _
end Go.Proofs.YtkdndabpaajkaaaGreatDoor.U8
namespace Go.Proofs.YtkdndabpaajkaaaGreatDoor.U8
open Go.RowKit Go.Proofs.YtkdndabpaajkaaaGreatDoor.A Go.Proofs.YtkdndabpaajkaaaGreatDoorW.PrintWords Go.Proofs.YtkdndabpaajkaaaGreatDoorW.PrintLast Go.Lib
set_option linter.unusedVariables false
set_option linter.unusedSimpArgs false
theorem ordB_all {α : Type} (P : α → Bool) (R : α → α → Bool) : ∀ (l : List α) (o : Option α), ordB P R o l = true → ∀ x ∈ l, P x = true
  | [], _, _, x, hx => by cases hx
  | y :: l, none, h, x, hx => by
    have h : (P y && ordB P R (some y) l) = true := h
    rw [Bool.and_eq_true] at h
    rcases List.mem_cons.1 hx with rfl | hx
    · exact h.1
    · exact ordB_all P R l (some y) h.2 x hx
  | y :: l, some z, h, x, hx => by
    have h : (P y && (R z y && ordB P R (some y) l)) = true := h
    rw [Bool.and_eq_true, Bool.and_eq_true] at h
    rcases List.mem_cons.1 hx with rfl | hx
    · exact h.1
    · exact ordB_all P R l (some y) h.2.2 x hx
end Go.Proofs.YtkdndabpaajkaaaGreatDoor.U8
namespace Go.Proofs.YtkdndabpaajkaaaGreatDoor.U8
open Go.RowKit Go.Proofs.YtkdndabpaajkaaaGreatDoor.A Go.Proofs.YtkdndabpaajkaaaGreatDoorW.PrintWords Go.Proofs.YtkdndabpaajkaaaGreatDoorW.PrintLast Go.Lib
set_option linter.unusedVariables false
set_option linter.unusedSimpArgs false
end Go.Proofs.YtkdndabpaajkaaaGreatDoor.U8
namespace Go.Proofs.YtkdndabpaajkaaaGreatDoor.U8
open Go.RowKit Go.Proofs.YtkdndabpaajkaaaGreatDoor.A Go.Proofs.YtkdndabpaajkaaaGreatDoorW.PrintWords Go.Proofs.YtkdndabpaajkaaaGreatDoorW.PrintLast Go.Lib
set_option linter.unusedVariables false
set_option linter.unusedSimpArgs false
def encA (x : Att) : List UInt8 := (encN x.f0.size ++ x.f0.data.toList) ++ textL x.f1.f0 x.f1.f1 x.f1.f2
def encAs (l : List Att) : List UInt8 := (l.map encA).flatten
def attrsT (l : List Att) : List UInt8 := encN l.length ++ encAs l
def attrB (l : List Att) : ByteArray := if checkA l = true then bl (attrsT l) else bl []
theorem valB_ok (n i : Int) (s : ByteArray) (h : valB n i s = true) : okV n i s := by
  by_cases hv : okV n i s
  · exact hv
  · have := check_no n i s hv
    rw [val_q, h] at this
    exact absurd (Option.some.inj this) (by decide)
theorem checkA_all (l : List Att) (h : checkA l = true) : (∀ x ∈ l, simpleB x.f0 = true ∧ okV x.f1.f0 x.f1.f1 x.f1.f2) ∧ l.length ≤ 24 := by
  unfold checkA at h
  rw [Bool.and_eq_true, decide_eq_true_eq] at h
  refine ⟨fun x hx => ?_, h.2⟩
  have h1 := ordB_all _ _ l none h.1 x hx
  unfold attX at h1
  rw [Bool.and_eq_true] at h1
  exact ⟨h1.1, valB_ok _ _ _ h1.2⟩
theorem textL_len (a0 a1 : Int) (a2 : ByteArray) (h : okV a0 a1 a2) : (textL a0 a1 a2).length ≤ 300 := by
  unfold textL
  have h1 := szOf_pos a0.toNat
  have h2 := szOf_pos (foldN a1)
  have h3 := szOf_pos a2.size
  rw [List.length_append, encN_len]
  unfold okV at h
  split
  · rw [encN_len]; omega
  split
  · show _ + 1 ≤ 300; omega
  · rw [List.length_append, encN_len, ← size_len]; omega
theorem vtext_ev (a0 a1 : Int) (a2 : ByteArray) (h : okV a0 a1 a2) : Evn (fun k => value_Text.f k a0 a1 a2) (bl (textL a0 a1 a2)) := Evn.of 20 (fun k hk => by
  have := vtext_q a0 a1 a2 h (k - 20)
  rw [show k - 20 + 20 = k by omega] at this; exact this)
theorem vread_ev (s : ByteArray) (hs : s.size < 1000000) : Evn (fun k => value_Read.f k s) (readX s) := Evn.of 20 (fun k hk => by
  have := read_x s hs (k - 20)
  rw [show k - 20 + 20 = k by omega] at this; exact this)
theorem attr_go : ∀ (l : List Att) (acc : List UInt8), (∀ x ∈ l, okV x.f1.f0 x.f1.f1 x.f1.f2) → (∀ x ∈ l, x.f0.size < 20000) → acc.length + 21000 * l.length ≤ 140737488355328 → Evn (fun k => schema_AttrText.go k l acc) (bl (acc ++ encAs l))
  | [], acc, hv, hs, hl => by
    show Evn _ (bl (acc ++ []))
    rw [List.append_nil]
    exact Evn.ret _
  | x :: l, acc, hv, hs, hl => by
    have hx := hv x List.mem_cons_self
    have hsx := hs x List.mem_cons_self
    have ht := textL_len _ _ _ hx
    have hn := szOf_pos x.f0.size
    rw [List.length_cons] at hl
    have ih := attr_go l (acc ++ encA x) (fun y hy => hv y (List.mem_cons_of_mem _ hy)) (fun y hy => hs y (List.mem_cons_of_mem _ hy)) (by
      unfold encA
      rw [List.length_append, List.length_append, List.length_append, encN_len, ← size_len]; omega)
    have e : ((bl (encN x.f0.size) ++ x.f0) ++ bl (textL x.f1.f0 x.f1.f1 x.f1.f2)).data.toList = encA x := by
      rw [bl_appl, bl_app]; rfl
    refine Evn.bind (num_ev x.f0.size (by omega)) (Evn.bind (vtext_ev _ _ _ hx) (Evn.pos (by show acc.length + ((encN x.f0.size).length + x.f0.size + (textL x.f1.f0 x.f1.f1 x.f1.f2).length) ≤ _; rw [encN_len]; omega) ?_))
    rw [e]
    refine Evn.val ?_ ih
    show bl (acc ++ encA x ++ encAs l) = bl (acc ++ (encA x ++ encAs l))
    rw [List.append_assoc]
theorem attrText_q (l : List Att) (hs : ∀ x ∈ l, x.f0.size < 20000) (hl : l.length < 100000) : Evn (fun k => schema_AttrText.f k l) (attrB l) := by
  unfold attrB
  refine Evn.bind (attrs_q l hs hl) ?_
  by_cases h : checkA l = true
  · obtain ⟨ha, h24⟩ := checkA_all l h
    have hn := szOf_pos l.length
    rw [if_pos h]
    exact Evn.pos h (Evn.bind (num_ev l.length (by omega)) (Evn.pos (by rw [bl_size, encN_len]; omega) (attr_go l (encN l.length) (fun x hx => (ha x hx).2) hs (by rw [encN_len]; omega))))
  · rw [if_neg h]
    exact Evn.neg h (Evn.ret _)
theorem attrB_len (l : List Att) (hs : ∀ x ∈ l, x.f0.size < 20000) (h : checkA l = true) : (attrsT l).length ≤ 1000000 := by
  obtain ⟨ha, h24⟩ := checkA_all l h
  have hn := szOf_pos l.length
  have key : ∀ m : List Att, (∀ x ∈ m, x ∈ l) → (encAs m).length ≤ 21000 * m.length := by
    intro m
    induction m with
    | nil => intro _; exact Nat.le_refl _
    | cons x m ih =>
      intro hm
      have h1 := ih (fun y hy => hm y (List.mem_cons_of_mem _ hy))
      have h2 := textL_len _ _ _ (ha x (hm x List.mem_cons_self)).2
      have h3 := hs x (hm x List.mem_cons_self)
      have h4 := szOf_pos x.f0.size
      have e : encAs (x :: m) = encA x ++ encAs m := rfl
      rw [e, List.length_append, List.length_cons]
      unfold encA
      rw [List.length_append, List.length_append, encN_len, ← size_len]; omega
  have := key l (fun x hx => hx)
  unfold attrsT
  rw [List.length_append, encN_len]; omega
def attOf (row : List Itm) (v : Int × Int × ByteArray × ByteArray × Int) : Att := ⟨(rd_T147 row 0).f2, ⟨v.1, v.2.1, v.2.2.1⟩⟩
def readAs : Nat → List Att → ByteArray → List Att × ByteArray × Int
  | 0, acc, s => if checkA acc = true then (acc, s, 0) else ([], ⟨#[]⟩, 3)
  | m + 1, acc, s => if (takeR [4] [] s).2.2 = 0 then (if (readX (takeR [4] [] s).2.1).2.2.2.2 = 0 then readAs m (acc ++ [attOf (takeR [4] [] s).1 (readX (takeR [4] [] s).2.1)]) (readX (takeR [4] [] s).2.1).2.2.2.1 else ([], ⟨#[]⟩, (readX (takeR [4] [] s).2.1).2.2.2.2)) else ([], ⟨#[]⟩, (takeR [4] [] s).2.2)
def readA (s : ByteArray) : List Att × ByteArray × Int := if (getS s).2.2 = 0 then (if (getS s).1 > 24 then ([], ⟨#[]⟩, 2) else readAs (getS s).1.toNat [] (getS s).2.1) else ([], ⟨#[]⟩, (getS s).2.2)
theorem q4 : ∀ q ∈ ([4] : List Int), q134 q := by
  intro q hq
  unfold q134
  simp only [List.mem_cons, List.not_mem_nil, or_false] at hq
  omega
theorem row1 (l : List Itm) (h : l.map (·.f0) = [4]) (ho : ∀ x ∈ l, okI x) : l = [⟨4, 0, (rd_T147 l 0).f2⟩] ∧ (rd_T147 l 0).f2.size ≤ 65536 := by
  have hl1 : l.length = 1 := by rw [← List.length_map (f := fun x : Itm => x.f0), h]; rfl
  obtain ⟨a, rfl⟩ : ∃ a, l = [a] := by
    match l, hl1 with
    | [a], _ => exact ⟨a, rfl⟩
  have h : [a.f0] = [4] := h
  simp only [List.cons.injEq, and_true] at h
  have oa := ho a (by simp)
  obtain ⟨a0, a1, a2⟩ := a
  dsimp only at h
  subst h
  rcases oa with ⟨h, _⟩ | ⟨h, _⟩ | ⟨_, h, h'⟩
  · exact absurd h (show ¬ (4 : Int) = 1 by decide)
  · exact absurd h (show ¬ (4 : Int) = 3 by decide)
  · dsimp only at h
    subst h
    exact ⟨rfl, h'⟩
theorem readX_ok (s : ByteArray) (h : (readX s).2.2.2.2 = 0) : okV (readX s).1 (readX s).2.1 (readX s).2.2.1 ∧ s.data.toList = textL (readX s).1 (readX s).2.1 (readX s).2.2.1 ++ (readX s).2.2.2.1.data.toList :=
  read_back s _ _ _ _ (by rw [← h])
theorem size_of_app (s : ByteArray) (a : List UInt8) (t : ByteArray) (h : s.data.toList = a ++ t.data.toList) : t.size ≤ s.size ∧ a.length ≤ s.size := by
  have := congrArg List.length h
  rw [List.length_append, ← size_len, ← size_len] at this
  omega
theorem readAs_ev (n : Nat) (hn : n ≤ 24) : ∀ (m i : Nat) (acc : List Att) (s : ByteArray), i + m = n → acc.length = i → s.size < 19000 → (∀ x ∈ acc, x.f0.size < 20000) → Evn (fun k => schema_ReadAttrs.l0 k acc s (n : Int) (i : Int)) (readAs m acc s)
  | 0, i, acc, s, hi, ha, hs, hz => by
    refine Evn.step (fun k => schema_ReadAttrs.l0.eq_2 ..) (Evn.neg (by omega) (Evn.bind (attrs_q acc hz (by omega)) ?_))
    unfold readAs
    by_cases h : checkA acc = true
    · exact Evn.val (by rw [if_pos h]) (Evn.pos h (Evn.ret _))
    · exact Evn.val (by rw [if_neg h]) (Evn.neg h (Evn.ret _))
  | m + 1, i, acc, s, hi, ha, hs, hz => by
    have hw : wrap64 ((i : Int) + 1) = ((i + 1 : Nat) : Int) := by unfold wrap64; omega
    have hsz := takeR_size [4] [] s q4
    refine Evn.step (fun k => schema_ReadAttrs.l0.eq_2 ..) (Evn.pos (by omega) (Evn.bind (takeR_ev s (by omega) [4] q4 (by decide)) ?_))
    rw [hw, readAs]
    by_cases h0 : (takeR [4] [] s).2.2 = 0
    · obtain ⟨l, e1, e2, e3, e4⟩ := takeR_back [4] [] s (takeR [4] [] s).1 (takeR [4] [] s).2.1 q4 (by rw [← h0])
      rw [List.nil_append] at e1
      have hlen : (takeR [4] [] s).1.length = 1 := by rw [e1, ← List.length_map (f := fun x : Itm => x.f0), e2]; rfl
      obtain ⟨r1, r2⟩ := row1 l e2 e3
      have hfs : (rd_T147 l 0).f2.size ≤ s.size := by
        have h5 := congrArg List.length e4
        rw [List.length_append, r1] at h5
        have : rowL [⟨4, 0, (rd_T147 l 0).f2⟩] = (encN (rd_T147 l 0).f2.size ++ (rd_T147 l 0).f2.data.toList) ++ [] := rfl
        rw [this, List.length_append, List.length_append, ← size_len, ← size_len, ← size_len] at h5
        omega
      rw [if_pos h0]
      refine Evn.pos h0 (Evn.bind (vread_ev _ (by omega)) ?_)
      by_cases h1 : (readX (takeR [4] [] s).2.1).2.2.2.2 = 0
      · have hb := (size_of_app _ _ _ (readX_ok _ h1).2).1
        rw [if_pos h1]
        refine Evn.pos h1 (Evn.pos (by omega) (Evn.pos (by omega) ?_))
        refine readAs_ev n hn m (i + 1) _ _ (by omega) (by rw [snocLen, ha]) (by omega) (fun x hx => ?_)
        rcases List.mem_append.1 hx with hx | hx
        · exact hz x hx
        · have hq : x.f0 = (rd_T147 l 0).f2 := by rw [List.mem_singleton.1 hx, e1]
          rw [hq]; omega
      · rw [if_neg h1]
        exact Evn.neg h1 (Evn.ret _)
    · rw [if_neg h0]
      exact Evn.neg h0 (Evn.ret _)
theorem attrsRead_w (s : ByteArray) (hs : s.size < 19000) : Evn (fun k => schema_ReadAttrs.f k s) (readA s) := by
  have ho := get_ok s
  unfold readA
  refine Evn.bind (get_ev s (by omega)) ?_
  by_cases h0 : (getS s).2.2 = 0
  · rw [if_pos h0]
    refine Evn.pos h0 ?_
    by_cases h1 : (getS s).1 > 24
    · rw [if_pos h1]
      exact Evn.pos h1 (Evn.ret _)
    · rw [if_neg h1]
      have := readAs_ev (getS s).1.toNat (by omega) (getS s).1.toNat 0 [] (getS s).2.1 (by omega) rfl (by omega) (fun x hx => by cases hx)
      rw [Int.toNat_of_nonneg ho.1] at this
      exact Evn.neg h1 this
  · rw [if_neg h0]
    exact Evn.neg h0 (Evn.ret _)
theorem readX_fwd (a0 a1 : Int) (a2 : ByteArray) (h : okV a0 a1 a2) (r : List UInt8) : readX (bl (textL a0 a1 a2 ++ r)) = (a0, a1, a2, bl r, 0) := by
  obtain ⟨rest, h1, h2⟩ := read_fwd (bl (textL a0 a1 a2 ++ r)) a0 a1 a2 h r rfl
  rw [h2]
  exact Prod.ext rfl (Prod.ext rfl (Prod.ext rfl (Prod.ext (bl_ext h1) rfl)))
theorem readAs_fwd (r : List UInt8) : ∀ (l acc : List Att), checkA (acc ++ l) = true → (∀ x ∈ l, okV x.f1.f0 x.f1.f1 x.f1.f2 ∧ x.f0.size ≤ 65536) → readAs l.length acc (bl (encAs l ++ r)) = (acc ++ l, bl r, 0)
  | [], acc, h, ho => by
    rw [List.append_nil] at h ⊢
    show (if checkA acc = true then (acc, bl r, (0 : Int)) else _) = _
    rw [if_pos h]
  | x :: l, acc, h, ho => by
    obtain ⟨o1, o2⟩ := ho x List.mem_cons_self
    have ht := takeR_fwd [⟨4, 0, x.f0⟩] [] (textL x.f1.f0 x.f1.f1 x.f1.f2 ++ (encAs l ++ r)) (fun i hi => by rw [List.mem_singleton.1 hi]; exact .inr (.inr ⟨rfl, rfl, o2⟩))
    have ih := readAs_fwd r l (acc ++ [x]) (by rw [List.append_assoc]; exact h) (fun y hy => ho y (List.mem_cons_of_mem _ hy))
    have e : rowL [⟨4, 0, x.f0⟩] ++ (textL x.f1.f0 x.f1.f1 x.f1.f2 ++ (encAs l ++ r)) = encAs (x :: l) ++ r := by
      show ((encN x.f0.size ++ x.f0.data.toList) ++ []) ++ _ = (((encN x.f0.size ++ x.f0.data.toList) ++ textL x.f1.f0 x.f1.f1 x.f1.f2) ++ encAs l) ++ r
      rw [List.append_nil, List.append_assoc, List.append_assoc, List.append_assoc, List.append_assoc]
    have e2 : ([⟨4, 0, x.f0⟩] : List Itm).map (·.f0) = [4] := rfl
    rw [e, e2, List.nil_append] at ht
    rw [List.length_cons, readAs, ht]
    dsimp only
    rw [if_pos rfl, readX_fwd _ _ _ o1]
    dsimp only
    rw [if_pos rfl]
    have e3 : attOf [⟨4, 0, x.f0⟩] (x.f1.f0, x.f1.f1, x.f1.f2, bl (encAs l ++ r), 0) = x := rfl
    rw [e3, ih, List.append_assoc]; rfl
theorem readA_fwd (l : List Att) (h : checkA l = true) (hs : ∀ x ∈ l, x.f0.size < 20000) (r : List UInt8) : readA (bl (attrsT l ++ r)) = (l, bl r, 0) := by
  obtain ⟨ha, h24⟩ := checkA_all l h
  unfold readA attrsT
  rw [List.append_assoc, getS_fwd _ (by omega)]
  dsimp only
  rw [if_pos rfl, if_neg (by omega), Int.toNat_natCast, readAs_fwd r l [] h (fun x hx => ⟨(ha x hx).2, by have := hs x hx; omega⟩)]; rfl
theorem readAs_back : ∀ (m : Nat) (acc : List Att) (s : ByteArray) (L : List Att) (rest : ByteArray), readAs m acc s = (L, rest, 0) → ∃ l, L = acc ++ l ∧ l.length = m ∧ checkA L = true ∧ s.data.toList = encAs l ++ rest.data.toList
  | 0, acc, s, L, rest, h => by
    unfold readAs at h
    by_cases hc : checkA acc = true
    · rw [if_pos hc] at h
      simp only [Prod.mk.injEq] at h
      obtain ⟨rfl, rfl, _⟩ := h
      exact ⟨[], (List.append_nil _).symm, rfl, hc, rfl⟩
    · rw [if_neg hc] at h
      simp only [Prod.mk.injEq] at h
      exact absurd h.2.2 (by decide)
  | m + 1, acc, s, L, rest, h => by
    rw [readAs] at h
    by_cases h0 : (takeR [4] [] s).2.2 = 0
    · obtain ⟨l, e1, e2, e3, e4⟩ := takeR_back [4] [] s (takeR [4] [] s).1 (takeR [4] [] s).2.1 q4 (by rw [← h0])
      rw [List.nil_append] at e1
      rw [if_pos h0] at h
      by_cases h1 : (readX (takeR [4] [] s).2.1).2.2.2.2 = 0
      · rw [if_pos h1] at h
        obtain ⟨x1, x2⟩ := readX_ok _ h1
        obtain ⟨l2, f1, f2, f3, f4⟩ := readAs_back m _ _ L rest h
        refine ⟨attOf (takeR [4] [] s).1 (readX (takeR [4] [] s).2.1) :: l2, by rw [f1, List.append_assoc]; rfl, by rw [List.length_cons, f2], f3, ?_⟩
        have e5 : rowL l = encN (rd_T147 l 0).f2.size ++ (rd_T147 l 0).f2.data.toList := by
          have h6 : rowL [⟨4, 0, (rd_T147 l 0).f2⟩] = (encN (rd_T147 l 0).f2.size ++ (rd_T147 l 0).f2.data.toList) ++ [] := rfl
          rw [← (row1 l e2 e3).1, List.append_nil] at h6
          exact h6
        rw [e4, x2, f4, e5, e1]
        show _ = (((encN (rd_T147 l 0).f2.size ++ (rd_T147 l 0).f2.data.toList) ++ textL _ _ _) ++ encAs l2) ++ _
        rw [List.append_assoc, List.append_assoc, List.append_assoc, List.append_assoc]; rfl
      · rw [if_neg h1] at h
        simp only [Prod.mk.injEq] at h
        exact absurd h.2.2 h1
    · rw [if_neg h0] at h
      simp only [Prod.mk.injEq] at h
      exact absurd h.2.2 h0
theorem readA_back (s : ByteArray) (L : List Att) (rest : ByteArray) (h : readA s = (L, rest, 0)) : checkA L = true ∧ s.data.toList = attrsT L ++ rest.data.toList := by
  unfold readA at h
  by_cases h0 : (getS s).2.2 = 0
  · rw [if_pos h0] at h
    by_cases h1 : (getS s).1 > 24
    · rw [if_pos h1] at h
      simp only [Prod.mk.injEq] at h
      exact absurd h.2.2 (by decide)
    · rw [if_neg h1] at h
      obtain ⟨g1, g2, g3⟩ := get_back s (getS s).1 (getS s).2.1 (by rw [← h0])
      obtain ⟨l, f1, f2, f3, f4⟩ := readAs_back _ _ _ L rest h
      rw [List.nil_append] at f1
      subst f1
      refine ⟨f3, ?_⟩
      unfold attrsT
      rw [g3, f4, f2, List.append_assoc]
  · rw [if_neg h0] at h
    simp only [Prod.mk.injEq] at h
    exact absurd h.2.2 h0
end Go.Proofs.YtkdndabpaajkaaaGreatDoor.U8
namespace Go.Proofs.YtkdndabpaajkaaaGreatDoor.U8
open Go.RowKit Go.Proofs.YtkdndabpaajkaaaGreatDoor.A Go.Proofs.YtkdndabpaajkaaaGreatDoorW.PrintWords Go.Proofs.YtkdndabpaajkaaaGreatDoorW.PrintLast Go.Lib
set_option linter.unusedVariables false
set_option linter.unusedSimpArgs false
def hdB (d : Int) : UInt8 := UInt8.ofNat (hexd d).toNat
def hexB : List UInt8 → List UInt8
  | [] => []
  | b :: l => hdB ((b.toNat : Int) / 16) :: hdB ((b.toNat : Int) % 16) :: hexB l
theorem hexB_L : ∀ l, Go.Lib.bytesOf (hexL l) = hexB l
  | [] => rfl
  | b :: l => by
    have := hexB_L l
    unfold Go.Lib.bytesOf at this ⊢
    rw [hexL, hexB, List.map_cons, List.map_cons, this]; rfl
theorem hex_fin : ∀ n : Fin 256, hexV (hdB ((n.val : Int) / 16)).toNat = (n.val : Int) / 16 ∧ hexV (hdB ((n.val : Int) % 16)).toNat = (n.val : Int) % 16 ∧ (hdB ((n.val : Int) / 16)).toNat ≠ 39 := by decide +kernel
theorem hex_inv : ∀ n : Fin 256, 0 ≤ hexV n.val → hdB (hexV n.val) = UInt8.ofNat n.val := by decide +kernel
theorem hex_b (b : UInt8) : hexV (hdB ((b.toNat : Int) / 16)).toNat = (b.toNat : Int) / 16 ∧ hexV (hdB ((b.toNat : Int) % 16)).toNat = (b.toNat : Int) % 16 ∧ (hdB ((b.toNat : Int) / 16)).toNat ≠ 39 := hex_fin ⟨b.toNat, UInt8.toNat_lt b⟩
theorem hex_i (b : UInt8) (h : 0 ≤ hexV b.toNat) : hdB (hexV b.toNat) = b := by
  have := hex_inv ⟨b.toNat, UInt8.toNat_lt b⟩ h
  rw [this, UInt8.ofNat_toNat]
def nums (l : List UInt8) : List Int := l.map fun b => (b.toNat : Int)
theorem nums_str (l : List UInt8) : (strOfNums (nums l)).data.toList = l := by
  show ((nums l).map fun n => UInt8.ofNat n.toNat) = l
  unfold nums
  rw [List.map_map]
  conv => rhs; rw [← List.map_id l]
  refine List.map_congr_left fun b hb => ?_
  show UInt8.ofNat ((b.toNat : Int)).toNat = b
  rw [Int.toNat_natCast, UInt8.ofNat_toNat]
theorem hex_fwd (s : ByteArray) (r : List UInt8) : ∀ (l : List UInt8) (m i : Nat) (xs : List Int), i ≤ s.size → s.size - i < m → s.data.toList.drop i = hexB l ++ 39 :: r → xs.length + l.length ≤ 200 →
    ∃ j, s.data.toList.drop j = r ∧ j ≤ s.size ∧ hexGo s m i xs = (4, 0, strOfNums (xs ++ nums l), s.extract j s.size, 0)
  | [], m, i, xs, h1, h2, h3, h4 => by
    obtain ⟨m, rfl⟩ : ∃ q, m = q + 1 := ⟨m - 1, by omega⟩
    obtain ⟨e1, e2⟩ := ext_drop (a := [39]) (b := r) (by rw [h3]; rfl) h1
    have hb : byt s.data.toList i = 39 := by rw [byt_of_drop h3]; rfl
    have e3 : i + 1 ≤ s.size := e2
    refine ⟨i + 1, e1, e2, ?_⟩
    rw [hexGo, if_neg (by omega), if_pos hb, if_neg (by simp at h4; omega)]
    simp [nums]
  | b :: l, m, i, xs, h1, h2, h3, h4 => by
    obtain ⟨m, rfl⟩ : ∃ q, m = q + 1 := ⟨m - 1, by omega⟩
    obtain ⟨e1, e2⟩ := ext_drop (a := [hdB ((b.toNat : Int) / 16), hdB ((b.toNat : Int) % 16)]) (b := hexB l ++ 39 :: r) (by rw [h3]; rfl) h1
    have e3 : i + 2 ≤ s.size := e2
    have b0 : byt s.data.toList i = (hdB ((b.toNat : Int) / 16)).toNat := by rw [byt_of_drop h3]; rfl
    have b1 : byt s.data.toList (i + 1) = (hdB ((b.toNat : Int) % 16)).toNat := by
      rw [← byt_drop, h3]; rfl
    obtain ⟨v0, v1, v2⟩ := hex_b b
    have hlt := UInt8.toNat_lt b
    have hl : (b :: l).length = l.length + 1 := rfl
    obtain ⟨j, j1, j2, j3⟩ := hex_fwd s r l m (i + 2) (xs ++ [(b.toNat : Int)]) e2 (by omega) e1 (by rw [List.length_append]; show xs.length + 1 + l.length ≤ 200; omega)
    refine ⟨j, j1, j2, ?_⟩
    rw [hexGo, if_neg (by omega), b0, if_neg v2, b1, v0, v1, if_neg (by omega), show (16 * ((b.toNat : Int) / 16) + (b.toNat : Int) % 16) % 256 = (b.toNat : Int) by omega, j3]
    rw [List.append_assoc]; rfl
theorem hex_back (s : ByteArray) : ∀ (m i : Nat) (xs : List Int) (K N : Int) (S rest : ByteArray), i ≤ s.size → hexGo s m i xs = (K, N, S, rest, 0) →
    ∃ l, K = 4 ∧ N = 0 ∧ S = strOfNums (xs ++ nums l) ∧ xs.length + l.length ≤ 200 ∧ s.data.toList.drop i = hexB l ++ 39 :: rest.data.toList
  | 0, i, xs, K, N, S, rest, h1, h => by rw [hexGo] at h; simp at h
  | m + 1, i, xs, K, N, S, rest, h1, h => by
    rw [hexGo] at h
    by_cases hi : s.size ≤ i
    · rw [if_pos hi] at h; simp at h
    rw [if_neg hi] at h
    obtain ⟨b, e, hb⟩ := drop_byt s i (by omega)
    by_cases h39 : byt s.data.toList i = 39
    · rw [if_pos h39] at h
      by_cases h200 : xs.length > 200
      · rw [if_pos h200] at h; simp at h
      rw [if_neg h200] at h
      simp only [Prod.mk.injEq] at h
      obtain ⟨rfl, rfl, rfl, rfl, _⟩ := h
      refine ⟨[], rfl, rfl, by simp [nums], by simp; omega, ?_⟩
      rw [e, extract_toList]
      have : b = 39 := UInt8.toNat_inj.1 (by rw [← hb, h39]; rfl)
      rw [this]; rfl
    rw [if_neg h39] at h
    by_cases hc : s.size < i + 2 ∨ hexV (byt s.data.toList i) < 0 ∨ hexV (byt s.data.toList (i + 1)) < 0
    · rw [if_pos hc] at h; simp at h
    rw [if_neg hc] at h
    obtain ⟨c, e', hb'⟩ := drop_byt s (i + 1) (by omega)
    obtain ⟨l, k1, k2, k3, k4, k5⟩ := hex_back s m (i + 2) _ K N S rest (by omega) h
    have g0 := hexV_lt (byt s.data.toList i)
    have g1 := hexV_lt (byt s.data.toList (i + 1))
    generalize hd0 : hexV (byt s.data.toList i) = d0 at *
    generalize hd1 : hexV (byt s.data.toList (i + 1)) = d1 at *
    have ex : (16 * d0 + d1) % 256 = 16 * d0 + d1 := by omega
    have et : ((UInt8.ofNat (16 * d0 + d1).toNat).toNat : Int) = 16 * d0 + d1 := by rw [UInt8.toNat_ofNat']; omega
    refine ⟨UInt8.ofNat (16 * d0 + d1).toNat :: l, k1, k2, ?_, ?_, ?_⟩
    · rw [k3, ex, List.append_assoc]
      congr 2
      show [16 * d0 + d1] ++ nums l = _
      unfold nums
      rw [List.map_cons, et]; rfl
    · rw [List.length_append] at k4
      have : ([(16 * d0 + d1) % 256] : List Int).length = 1 := rfl
      rw [List.length_cons]; omega
    · rw [hexB, et, show (16 * d0 + d1) / 16 = d0 by omega, show (16 * d0 + d1) % 16 = d1 by omega, e, e', k5, ← hd0, ← hd1, hb, hb', hex_i b (by rw [← hb, hd0]; omega), hex_i c (by rw [← hb', hd1]; omega)]
      rfl
theorem show_q (a0 a1 : Int) (a2 : ByteArray) (h : okV a0 a1 a2) (k : Nat) (hk : 300 ≤ k) : value_Show.f k a0 a1 a2 = some ⟨(showL a0 a1 a2).toArray⟩ := by
  unfold value_Show.f showL
  rw [check_ok _ _ _ h, Option.bind_some, if_pos rfl]
  rcases h with ⟨rfl, h1, h2, h3⟩ | ⟨rfl, rfl, h1, h2⟩ | ⟨rfl, h1, h2⟩ | ⟨rfl, rfl, h1⟩
  · rw [if_pos rfl, if_pos rfl, strconv_Itoa.f, if_pos (by omega), Option.bind_some]
  · rw [if_neg (by omega), if_pos rfl, if_neg (by omega), if_pos rfl, quoted_q a2 (by omega) h2, Option.bind_some]
  · rw [if_neg (by omega), if_neg (by omega), if_pos rfl, if_neg (by omega), if_neg (by omega), if_pos rfl]
    rcases h1 with rfl | rfl <;> rfl
  · rw [if_neg (by omega), if_neg (by omega), if_neg (by omega), if_neg (by omega), if_neg (by omega), if_neg (by omega), hexed_q a2 (by omega) k (by omega), Option.bind_some]
    rfl
end Go.Proofs.YtkdndabpaajkaaaGreatDoor.U8
namespace Go.Proofs.YtkdndabpaajkaaaGreatDoor.U8
open Go.RowKit Go.Proofs.YtkdndabpaajkaaaGreatDoor.A Go.Proofs.YtkdndabpaajkaaaGreatDoorW.PrintWords Go.Proofs.YtkdndabpaajkaaaGreatDoorW.PrintLast Go.Lib
set_option linter.unusedVariables false
set_option linter.unusedSimpArgs false
theorem no_pre (s : ByteArray) (c : Nat) (h : byt s.data.toList 0 = c) (p : ByteArray) (hp : p.size ≠ 0) (hn : c ≠ byt p.data.toList 0) : ¬ preB s p = true := fun e => hn (by rw [← h]; exact pre_byte e hp)
theorem pre_app (s p : ByteArray) (r : List UInt8) (h : s.data.toList = p.data.toList ++ r) : preB s p = true := by
  rw [pre_iff]
  refine ⟨?_, ?_⟩
  · rw [size_len, size_len, h, List.length_append]; omega
  · rw [h, size_len, List.take_left]
theorem scan_fwd (s : ByteArray) (hs : s.size < 1000000) (a0 a1 : Int) (a2 : ByteArray) (h : okV a0 a1 a2) (r : List UInt8) (hr1 : dg r = 0) (hr2 : goesB r = false) (he : s.data.toList = showL a0 a1 a2 ++ r) :
    ∃ j, s.data.toList.drop j = r ∧ j ≤ s.size ∧ scanX s = (a0, a1, a2, s.extract j s.size, 0) := by
  have hl := congrArg List.length he
  rw [List.length_append, ← size_len] at hl
  rcases h with ⟨rfl, h1, h2, h3⟩ | ⟨rfl, rfl, h1, h2⟩ | ⟨rfl, h1, h2⟩ | ⟨rfl, rfl, h1⟩
  · rw [ba_nil a2 h3]
    have hs0 : showL 1 a1 a2 = itoa a1 := by unfold showL; rw [if_pos rfl]
    rw [hs0] at he hl
    refine ⟨(itoa a1).length, by rw [he, List.drop_left], by omega, ?_⟩
    have hb : byt s.data.toList 0 = 45 ∨ (48 ≤ byt s.data.toList 0 ∧ byt s.data.toList 0 ≤ 57) := by
      rw [he]
      by_cases c : a1 < 0
      · rw [itoa_neg' _ c]; exact .inl rfl
      · rw [itoa_pos' _ c, byt_app0 _ _ (dd_len _)]; exact .inr (dd_first _).2
    have hz : s.size ≠ 0 := by
      have : 1 ≤ (itoa a1).length := by
        by_cases c : a1 < 0
        · rw [itoa_neg' _ c, List.length_cons]; omega
        · rw [itoa_pos' _ c]; exact dd_len _
      omega
    unfold scanX
    rw [if_neg hz, if_neg (by omega), if_neg (no_pre s _ rfl _ (by decide) (by show byt s.data.toList 0 ≠ 120; omega)), if_pos hb]
    exact int_fwd s a1 h1 h2 r hr1 he
  · have hs0 : showL 2 0 a2 = 34 :: (escL (runesOf a2.data.toList) ++ [34]) := by unfold showL; rw [if_neg (by omega), if_pos rfl]
    rw [hs0, List.cons_append] at he
    obtain ⟨b0, hz⟩ := byt_cons s 34 (escL (runesOf a2.data.toList) ++ [34] ++ r) he
    obtain ⟨v1, v2⟩ := valid_runes a2 h2
    have hd : s.data.toList.drop 1 = escL (runesOf a2.data.toList) ++ 34 :: r := by
      rw [he]
      show escL (runesOf a2.data.toList) ++ [34] ++ r = _
      rw [List.append_assoc]; rfl
    obtain ⟨j, j1, j2, j3⟩ := txt_fwd s hs r (runesOf a2.data.toList) (s.size + 1) 1 [] v2 (by omega) (by omega) hd (by rw [v1, ← size_len]; show 0 + a2.size ≤ 200; omega)
    refine ⟨j, j1, j2, ?_⟩
    unfold scanX
    rw [if_neg hz, if_pos (show byt s.data.toList 0 = 34 from b0)]
    show txtGo s (s.size + 1) 1 [] = _
    rw [j3, List.nil_append, v1]
  · rw [ba_nil a2 h2]
    rcases h1 with rfl | rfl
    · have hs0 : showL 3 0 a2 = wFalse.data.toList := by unfold showL; rw [if_neg (by omega), if_neg (by omega), if_pos rfl, if_neg (by omega)]; rfl
      rw [hs0] at he hl
      have hf : wFalse.data.toList.length = 5 := rfl
      obtain ⟨b0, hz⟩ := byt_cons s 102 _ he
      have b1 : byt s.data.toList 0 = 102 := b0
      have hd : s.data.toList.drop 5 = r := by rw [he, ← hf, List.drop_left]
      refine ⟨5, hd, by omega, ?_⟩
      unfold scanX
      rw [if_neg hz, if_neg (by omega), if_neg (no_pre s 102 b1 _ (by decide) (by decide)), if_neg (by omega), boolS, if_neg (fun e => no_pre s 102 b1 wTrue (by decide) (by decide) e.1), if_pos ⟨pre_app s wFalse r he, by rw [hd]; exact hr2⟩]
    · have hs0 : showL 3 1 a2 = wTrue.data.toList := by unfold showL; rw [if_neg (by omega), if_neg (by omega), if_pos rfl, if_pos rfl]; rfl
      rw [hs0] at he hl
      have hf : wTrue.data.toList.length = 4 := rfl
      obtain ⟨b0, hz⟩ := byt_cons s 116 _ he
      have b1 : byt s.data.toList 0 = 116 := b0
      have hd : s.data.toList.drop 4 = r := by rw [he, ← hf, List.drop_left]
      refine ⟨4, hd, by omega, ?_⟩
      unfold scanX
      rw [if_neg hz, if_neg (by omega), if_neg (no_pre s 116 b1 _ (by decide) (by decide)), if_neg (by omega), boolS, if_pos ⟨pre_app s wTrue r he, by rw [hd]; exact hr2⟩]
  · have hs0 : showL 4 0 a2 = 120 :: 39 :: (hexB a2.data.toList ++ [39]) := by
      unfold showL
      rw [if_neg (by omega), if_neg (by omega), if_neg (by omega), ← hexB_L]
      unfold Go.Lib.bytesOf
      rw [List.map_append, List.map_append]; rfl
    rw [hs0] at he hl
    obtain ⟨b0, hz⟩ := byt_cons s 120 _ he
    have b1 : byt s.data.toList 0 = 120 := b0
    simp only [List.length_cons] at hl
    have hd : s.data.toList.drop 2 = hexB a2.data.toList ++ 39 :: r := by
      rw [he]
      show hexB a2.data.toList ++ [39] ++ r = _
      rw [List.append_assoc]; rfl
    obtain ⟨j, j1, j2, j3⟩ := hex_fwd s r a2.data.toList s.size 2 [] (by omega) (by omega) hd (by rw [← size_len]; show 0 + a2.size ≤ 200; omega)
    refine ⟨j, j1, j2, ?_⟩
    unfold scanX
    rw [if_neg hz, if_neg (by omega), if_pos (pre_app s _ _ he), j3, List.nil_append]
    rw [baext (nums_str a2.data.toList)]
theorem scan_back (s : ByteArray) (hs : s.size < 1000000) (K N : Int) (S rest : ByteArray) (h : scanX s = (K, N, S, rest, 0)) : okV K N S ∧ s.data.toList = showL K N S ++ rest.data.toList := by
  unfold scanX at h
  by_cases hz : s.size = 0
  · rw [if_pos hz, errR] at h; simp at h
  rw [if_neg hz] at h
  obtain ⟨b, e, hb⟩ := drop_byt s 0 (by omega)
  rw [List.drop_zero] at e
  by_cases h34 : byt s.data.toList 0 = 34
  · rw [if_pos h34] at h
    obtain ⟨cs, k1, rfl, rfl, k4, k5, k6⟩ := txt_back s hs (s.size + 1) 1 [] K N S rest (by omega) h
    rw [List.nil_append] at k4
    obtain ⟨r1, r2⟩ := runes_enc cs (encL cs).length k1 (Nat.le_refl _)
    have hr : runesOf S.data.toList = cs := by rw [k4]; exact r1
    refine ⟨.inr (.inl ⟨rfl, rfl, k5, by rw [validD_validF, k4]; exact r2⟩), ?_⟩
    unfold showL
    rw [if_neg (by omega), if_pos rfl, hr, e, k6]
    have : b = 34 := UInt8.toNat_inj.1 (by rw [← hb, h34]; rfl)
    rw [this, List.cons_append, List.append_assoc]; rfl
  rw [if_neg h34] at h
  by_cases hx : preB s (⟨#[120, 39]⟩ : ByteArray) = true
  · rw [if_pos hx] at h
    obtain ⟨p1, p2⟩ := (pre_iff _ _).1 hx
    have p1 : 2 ≤ s.size := p1
    obtain ⟨l, rfl, rfl, rfl, k4, k5⟩ := hex_back s s.size 2 [] K N S rest p1 h
    rw [List.nil_append]
    refine ⟨.inr (.inr (.inr ⟨rfl, rfl, ?_⟩)), ?_⟩
    · rw [size_len, nums_str]
      have : ([] : List Int).length = 0 := rfl
      omega
    · unfold showL
      rw [if_neg (by omega), if_neg (by omega), if_neg (by omega), nums_str, ← List.take_append_drop 2 s.data.toList, k5]
      have p3 : s.data.toList.take 2 = [120, 39] := p2
      unfold Go.Lib.bytesOf
      have e2 := hexB_L l
      unfold Go.Lib.bytesOf at e2
      rw [p3, List.map_append, List.map_append, e2, List.append_assoc, List.append_assoc]; rfl
  rw [if_neg hx] at h
  by_cases hd : byt s.data.toList 0 = 45 ∨ (48 ≤ byt s.data.toList 0 ∧ byt s.data.toList 0 ≤ 57)
  · rw [if_pos hd] at h
    obtain ⟨rfl, k2, k3, rfl, k5⟩ := int_back s K N S rest h
    exact ⟨.inl ⟨rfl, k2, k3, rfl⟩, by unfold showL; rw [if_pos rfl]; exact k5⟩
  rw [if_neg hd, boolS] at h
  by_cases c1 : preB s wTrue = true ∧ goesB (s.data.toList.drop 4) = false
  · rw [if_pos c1] at h
    simp only [Prod.mk.injEq] at h
    obtain ⟨rfl, rfl, rfl, rfl, _⟩ := h
    refine ⟨.inr (.inr (.inl ⟨rfl, .inr rfl, rfl⟩)), ?_⟩
    have p2 : s.data.toList.take 4 = [116, 114, 117, 101] := ((pre_iff _ _).1 c1.1).2
    unfold showL
    rw [if_neg (by omega), if_neg (by omega), if_pos rfl, if_pos rfl, extract_toList, ← p2, List.take_append_drop]
  rw [if_neg c1] at h
  by_cases c2 : preB s wFalse = true ∧ goesB (s.data.toList.drop 5) = false
  · rw [if_pos c2] at h
    simp only [Prod.mk.injEq] at h
    obtain ⟨rfl, rfl, rfl, rfl, _⟩ := h
    refine ⟨.inr (.inr (.inl ⟨rfl, .inl rfl, rfl⟩)), ?_⟩
    have p2 : s.data.toList.take 5 = [102, 97, 108, 115, 101] := ((pre_iff _ _).1 c2.1).2
    unfold showL
    rw [if_neg (by omega), if_neg (by omega), if_pos rfl, if_neg (by omega), extract_toList, ← p2, List.take_append_drop]
  rw [if_neg c2] at h
  simp at h
end Go.Proofs.YtkdndabpaajkaaaGreatDoor.U8
namespace Go.Proofs.YtkdndabpaajkaaaGreatDoor.Pure
open Go.RowKit Go.Proofs.YtkdndabpaajkaaaGreatDoor.A Go.Proofs.YtkdndabpaajkaaaGreatDoor.U8 Go.Proofs.YtkdndabpaajkaaaGreatDoorW.PrintWords Go.Proofs.YtkdndabpaajkaaaGreatDoorW.PrintLast Go.Lib
set_option linter.unusedSimpArgs false
set_option linter.unusedVariables false
theorem escL_le : ∀ cs : List Nat, (∀ c ∈ cs, okC c) → (escL cs).length ≤ 8 * (encL cs).length
  | [], h => Nat.le_refl _
  | c :: cs, h => by
    have ih := escL_le cs (fun x hx => h x (List.mem_cons_of_mem _ hx))
    have hp := enc_pos c
    rw [escL, encL, List.length_append, List.length_append]
    by_cases hc : isCtl (c : Int) = true
    · have hr := isCtl_lt _ hc
      have h6 := (ctl_size (escB (c : Int)) c (by
        have := ctl_of (escB (c : Int)) (c : Int) hc (pre_app _ _ [] (by rw [List.append_nil]))
        rwa [Int.toNat_natCast] at this)).2.1
      rw [size_len] at h6
      omega
    · rw [(escB_pl c (h c (List.mem_cons_self ..)) hc).1]; omega
end Go.Proofs.YtkdndabpaajkaaaGreatDoor.Pure
