import Derived.Lib.DecodeNEq
import Derived.Lib.ValidU
import Derived.Lib.MapLaws
import Derived.Lib.Bytes
import Derived.Test.YtkdndabpaajkaaaGreatDoorAx0
import Derived.Test.YtkdndabpaajkaaaGreatDoorAx6
import Derived.Test.YtkdndabpaajkaaaGreatDoorAx7
import Derived.Test.YtkdndabpaajkaaaGreatDoorAx8
import Derived.Test.YtkdndabpaajkaaaGreatDoorAx9
import Derived.Test.YtkdndabpaajkaaaGreatDoorAx10
import Derived.Test.YtkdndabpaajkaaaGreatDoorAx11
import Derived.Test.YtkdndabpaajkaaaGreatDoorAx12
import Derived.Test.YtkdndabpaajkaaaGreatDoorAx13
import Derived.Test.YtkdndabpaajkaaaGreatDoorAx14
import Derived.Test.YtkdndabpaajkaaaGreatDoorAx15
import Derived.Test.YtkdndabpaajkaaaGreatDoorAx16
import Derived.Test.YtkdndabpaajkaaaGreatDoorAx17
import Derived.Test.YtkdndabpaajkaaaGreatDoorAx18
import Derived.Test.YtkdndabpaajkaaaGreatDoorAx19
import Derived.Test.YtkdndabpaajkaaaGreatDoorAx20
import Derived.Test.YtkdndabpaajkaaaGreatDoorAx21
import Derived.Test.YtkdndabpaajkaaaGreatDoorAx22
import Derived.Test.YtkdndabpaajkaaaGreatDoorAx23
import Derived.Test.YtkdndabpaajkaaaGreatDoorAx24
namespace Go.Proofs.YtkdndabpaajkaaaGreatDoor.U8
open Go.RowKit Go.Proofs.YtkdndabpaajkaaaGreatDoor.A Go.Proofs.YtkdndabpaajkaaaGreatDoorW.PrintWords Go.Proofs.YtkdndabpaajkaaaGreatDoorW.PrintLast Go.Lib
set_option linter.unusedVariables false
def Evn {α : Type} (g : Nat → Option α) (v : α) : Prop := ∃ K, ∀ k, K ≤ k → g k = some v
theorem Evn.of {α : Type} {g : Nat → Option α} {v : α} (K : Nat) (h : ∀ k, K ≤ k → g k = some v) : Evn g v := ⟨K, h⟩
theorem Evn.of1 {α : Type} {g : Nat → Option α} {v : α} (h : ∀ k, g (k + 1) = some v) : Evn g v := ⟨1, fun k hk => by
  obtain ⟨j, rfl⟩ : ∃ j, k = j + 1 := ⟨k - 1, by omega⟩
  exact h j⟩
theorem Evn.ret {α : Type} (v : α) : Evn (fun _ => some v) v := ⟨0, fun _ _ => rfl⟩
theorem Evn.con {α : Type} {o : Option α} {v : α} (h : o = some v) : Evn (fun _ => o) v := ⟨0, fun _ _ => h⟩
theorem Evn.step {α : Type} {g g' : Nat → Option α} {v : α} (e : ∀ k, g (k + 1) = g' k) (h : Evn g' v) : Evn g v := by
  obtain ⟨K, h⟩ := h
  refine ⟨K + 1, fun k hk => ?_⟩
  obtain ⟨j, rfl⟩ : ∃ j, k = j + 1 := ⟨k - 1, by omega⟩
  exact (e j).trans (h j (by omega))
theorem Evn.val {α : Type} {g : Nat → Option α} {v v' : α} (e : v = v') (h : Evn g v) : Evn g v' := e ▸ h
theorem Evn.pos {α : Type} {c : Prop} [Decidable c] {a b : Nat → Option α} {v : α} (hc : c) (h : Evn a v) : Evn (fun k => if c then a k else b k) v := by
  obtain ⟨K, h⟩ := h
  exact ⟨K, fun k hk => (if_pos hc).trans (h k hk)⟩
theorem Evn.neg {α : Type} {c : Prop} [Decidable c] {a b : Nat → Option α} {v : α} (hc : ¬ c) (h : Evn b v) : Evn (fun k => if c then a k else b k) v := by
  obtain ⟨K, h⟩ := h
  exact ⟨K, fun k hk => (if_neg hc).trans (h k hk)⟩
theorem Evn.bind {α β : Type} {g : Nat → Option α} {u : α} {h : Nat → α → Option β} {v : β} (hg : Evn g u) (hh : Evn (fun k => h k u) v) : Evn (fun k => (g k).bind (h k)) v := by
  obtain ⟨K, hg⟩ := hg
  obtain ⟨L, hh⟩ := hh
  refine ⟨K + L, fun k hk => ?_⟩
  show (g k).bind (h k) = some v
  rw [hg k (by omega), Option.bind_some]
  exact hh k (by omega)
theorem Evn.bc {α β : Type} {o : Option α} {u : α} {h : Nat → α → Option β} {v : β} (hg : o = some u) (hh : Evn (fun k => h k u) v) : Evn (fun k => o.bind (h k)) v := Evn.bind (Evn.con hg) hh
theorem Evn.get {α : Type} {g : Nat → Option α} {v : α} (h : Evn g v) : ∃ k, g k = some v := let ⟨K, h⟩ := h; ⟨K, h K (Nat.le_refl _)⟩
theorem w1p {α : Type} (pre : List α) (x : α) (h : pre.length < 4000000000000000000) : wrap64 ((pre.length : Int) + 1) = ((pre ++ [x]).length : Int) := by
  have e : (pre ++ [x]).length = pre.length + 1 := by rw [List.length_append]; rfl
  rw [e]; unfold wrap64; omega
theorem w1m {α : Type} (pre : List α) (x : α) (h : pre.length < 4000000000000000000) : wrap64 (((pre ++ [x]).length : Int) - 1) = (pre.length : Int) := by
  have e : (pre ++ [x]).length = pre.length + 1 := by rw [List.length_append]; rfl
  rw [e]; unfold wrap64; omega
theorem snocLen {α : Type} (pre : List α) (x : α) : (pre ++ [x]).length = pre.length + 1 := by rw [List.length_append]; rfl
theorem ltp {α : Type} (pre : List α) (x : α) (post : List α) : (pre.length : Int) < ((pre ++ x :: post).length : Int) := by
  rw [List.length_append, List.length_cons]; omega
theorem nltp {α : Type} (pre : List α) : ¬ (pre.length : Int) < ((pre ++ []).length : Int) := by
  rw [List.append_nil]; omega
theorem getDp {α : Type} (pre : List α) (x : α) (post : List α) (z : α) : (pre ++ x :: post).getD ((pre.length : Int)).toNat z = x := by
  rw [Int.toNat_natCast, List.getD_eq_getElem?_getD, List.getElem?_append_right (Nat.le_refl _), Nat.sub_self]; rfl
theorem getDq {α : Type} (pre : List α) (y : α) (post : List α) (z : α) : ((pre ++ [y]) ++ post).getD ((pre.length : Int)).toNat z = y := by
  rw [List.append_assoc]; exact getDp pre y post z
theorem getDm {α β : Type} (f : α → β) (pre : List α) (x : α) (post : List α) (z : β) : ((pre ++ x :: post).map f).getD ((pre.length : Int)).toNat z = f x := by
  rw [List.map_append, List.map_cons, Int.toNat_natCast, List.getD_eq_getElem?_getD, List.getElem?_append_right (by rw [List.length_map]; exact Nat.le_refl _), List.length_map, Nat.sub_self]; rfl
theorem Evn.loopS {α β : Type} {g : Nat → Int → Option β} (l : List α) (I : List α → Prop) (S : List α → List α → β)
    (h0 : I l → ¬ (l.length : Int) < (l.length : Int) → Evn (fun k => g k (l.length : Int)) (S l []))
    (hs : ∀ pre x post, l = pre ++ x :: post → I pre → (pre.length : Int) < (l.length : Int) → 0 ≤ (pre.length : Int) → (pre.length < 4000000000000000000 → wrap64 ((pre.length : Int) + 1) = ((pre ++ [x]).length : Int)) → (∀ z, l.getD ((pre.length : Int)).toNat z = x) → x ∈ l →
      (I (pre ++ [x]) → Evn (fun k => g k ((pre ++ [x]).length : Int)) (S (pre ++ [x]) post)) → Evn (fun k => g k (pre.length : Int)) (S pre (x :: post))) :
    ∀ (post pre : List α), l = pre ++ post → I pre → Evn (fun k => g k (pre.length : Int)) (S pre post)
  | [], pre, e, hi => by
    rw [List.append_nil] at e
    subst e
    exact h0 hi (by omega)
  | x :: post, pre, e, hi => by
    have hlt : (pre.length : Int) < (l.length : Int) := by rw [e]; exact ltp pre x post
    exact hs pre x post e hi hlt (Int.natCast_nonneg _) (fun hb => w1p pre x hb) (fun z => by rw [e]; exact getDp pre x post z) (by rw [e]; simp)
      (fun hi' => Evn.loopS l I S h0 hs post (pre ++ [x]) (by rw [e, List.append_assoc]; rfl) hi')
theorem Evn.loop {α β : Type} {g : Nat → Int → Option β} (l : List α) (hl : l.length < 4000000000000000000) (I : List α → Prop) (S : List α → List α → β)
    (h0 : I l → ¬ (l.length : Int) < (l.length : Int) → Evn (fun k => g k (l.length : Int)) (S l []))
    (hs : ∀ pre x post, l = pre ++ x :: post → I pre → (pre.length : Int) < (l.length : Int) → 0 ≤ (pre.length : Int) → wrap64 ((pre.length : Int) + 1) = ((pre ++ [x]).length : Int) → (∀ z, l.getD ((pre.length : Int)).toNat z = x) → x ∈ l →
      (I (pre ++ [x]) → Evn (fun k => g k ((pre ++ [x]).length : Int)) (S (pre ++ [x]) post)) → Evn (fun k => g k (pre.length : Int)) (S pre (x :: post))) :
    ∀ (post pre : List α), l = pre ++ post → I pre → Evn (fun k => g k (pre.length : Int)) (S pre post) :=
  Evn.loopS l I S h0 (fun pre x post e hi h1 h2 h3 h4 h5 h6 => hs pre x post e hi h1 h2 (h3 (by omega)) h4 h5 h6)
end Go.Proofs.YtkdndabpaajkaaaGreatDoor.U8
namespace Go.Proofs.YtkdndabpaajkaaaGreatDoor.U8
open Go.RowKit Go.Proofs.YtkdndabpaajkaaaGreatDoorW.PrintWords Go.Proofs.YtkdndabpaajkaaaGreatDoorW.PrintLast Go.Lib
set_option linter.unusedVariables false
def tl (n i b : Nat) : Prop := i < n ∧ 128 ≤ b ∧ b < 192
instance (n i b : Nat) : Decidable (tl n i b) := by unfold tl; exact inferInstance
def decR (n b0 b1 b2 b3 : Nat) : Nat × Nat :=
  if n = 0 then (0, 0)
  else if b0 < 128 then (b0, 1)
  else if 194 ≤ b0 ∧ b0 < 224 ∧ tl n 1 b1 then (64 * (b0 - 192) + (b1 - 128), 2)
  else if 224 ≤ b0 ∧ b0 < 240 ∧ tl n 1 b1 ∧ tl n 2 b2 ∧ 2048 ≤ 4096 * (b0 - 224) + 64 * (b1 - 128) + (b2 - 128) ∧ (4096 * (b0 - 224) + 64 * (b1 - 128) + (b2 - 128) < 55296 ∨ 57343 < 4096 * (b0 - 224) + 64 * (b1 - 128) + (b2 - 128)) then (4096 * (b0 - 224) + 64 * (b1 - 128) + (b2 - 128), 3)
  else if 240 ≤ b0 ∧ b0 < 245 ∧ tl n 1 b1 ∧ tl n 2 b2 ∧ tl n 3 b3 ∧ 65536 ≤ 262144 * (b0 - 240) + 4096 * (b1 - 128) + 64 * (b2 - 128) + (b3 - 128) ∧ 262144 * (b0 - 240) + 4096 * (b1 - 128) + 64 * (b2 - 128) + (b3 - 128) ≤ 1114111 then (262144 * (b0 - 240) + 4096 * (b1 - 128) + 64 * (b2 - 128) + (b3 - 128), 4)
  else (0, 0)
set_option maxHeartbeats 4000000 in
set_option maxRecDepth 100000 in
theorem decR_decodeN (n b0 b1 b2 b3 : Nat) (hn : n ≠ 0) (h0 : b0 < 256) (h1 : b1 < 256) (h2 : b2 < 256) (h3 : b3 < 256) :
    decR n b0 b1 b2 b3 = if decodeN n b0 b1 b2 b3 = (65533, 1) then (0, 0) else decodeN n b0 b1 b2 b3 := by
  have fin : ∀ X Y : Nat × Nat, decR n b0 b1 b2 b3 = X → decodeN n b0 b1 b2 b3 = Y → (X = if Y = (65533, 1) then (0, 0) else Y) → decR n b0 b1 b2 b3 = if decodeN n b0 b1 b2 b3 = (65533, 1) then (0, 0) else decodeN n b0 b1 b2 b3 := by
    intro X Y e1 e2 e3; rw [e1, e2]; exact e3
  have bad : decR n b0 b1 b2 b3 = (0, 0) → decodeN n b0 b1 b2 b3 = (65533, 1) → decR n b0 b1 b2 b3 = if decodeN n b0 b1 b2 b3 = (65533, 1) then (0, 0) else decodeN n b0 b1 b2 b3 := fun e1 e2 => fin _ _ e1 e2 (by rw [if_pos rfl])
  have good : ∀ X : Nat × Nat, X.2 ≠ 1 ∨ X.1 ≠ 65533 → decR n b0 b1 b2 b3 = X → decodeN n b0 b1 b2 b3 = X → decR n b0 b1 b2 b3 = if decodeN n b0 b1 b2 b3 = (65533, 1) then (0, 0) else decodeN n b0 b1 b2 b3 := fun X h e1 e2 => fin _ _ e1 e2 (by
    rw [if_neg]; intro e; rw [e] at h; simp at h)
  by_cases c0 : b0 < 128
  · exact good (b0, 1) (.inr (by show b0 ≠ 65533; omega)) (by unfold decR; rw [if_neg hn, if_pos c0]) (by unfold decodeN; rw [if_pos c0])
  by_cases c1 : b0 < 192
  · exact bad (by unfold decR; rw [if_neg hn, if_neg c0, if_neg (by omega), if_neg (by omega), if_neg (by omega)]) (by unfold decodeN; rw [if_neg c0, if_neg (by omega), if_neg (by omega), if_neg (by omega)])
  by_cases c2 : b0 < 224
  · by_cases k : 194 ≤ b0 ∧ b0 < 224 ∧ tl n 1 b1
    · have k' := k
      unfold tl at k'
      refine good (64 * (b0 - 192) + (b1 - 128), 2) (.inl (by simp)) (by unfold decR; rw [if_neg hn, if_neg c0, if_pos k]) ?_
      unfold decodeN
      rw [if_neg c0, if_pos (by omega), if_pos (by omega)]
      exact Prod.ext (by show _ = _; omega) rfl
    · have k' := k
      unfold tl at k'
      refine bad (by unfold decR; rw [if_neg hn, if_neg c0, if_neg k, if_neg (by omega), if_neg (by omega)]) ?_
      unfold decodeN
      rw [if_neg c0]
      by_cases k2 : b0 / 32 = 6 ∧ 1 < n ∧ b1 / 64 = 2
      · rw [if_pos k2, if_neg (by omega)]
      · rw [if_neg k2, if_neg (by omega), if_neg (by omega)]
  by_cases c3 : b0 < 240
  · by_cases k : 224 ≤ b0 ∧ b0 < 240 ∧ tl n 1 b1 ∧ tl n 2 b2 ∧ 2048 ≤ 4096 * (b0 - 224) + 64 * (b1 - 128) + (b2 - 128) ∧ (4096 * (b0 - 224) + 64 * (b1 - 128) + (b2 - 128) < 55296 ∨ 57343 < 4096 * (b0 - 224) + 64 * (b1 - 128) + (b2 - 128))
    · have k' := k
      unfold tl at k'
      refine good (4096 * (b0 - 224) + 64 * (b1 - 128) + (b2 - 128), 3) (.inl (by simp)) (by unfold decR; rw [if_neg hn, if_neg c0, if_neg (by omega), if_pos k]) ?_
      unfold decodeN
      rw [if_neg c0, if_neg (by omega), if_pos (by omega), if_pos (by omega)]
      exact Prod.ext (by show _ = _; omega) rfl
    · have k' := k
      unfold tl at k'
      refine bad (by unfold decR; rw [if_neg hn, if_neg c0, if_neg (by omega), if_neg k, if_neg (by omega)]) ?_
      unfold decodeN
      rw [if_neg c0, if_neg (by omega)]
      by_cases k2 : b0 / 16 = 14 ∧ (1 < n ∧ b1 / 64 = 2) ∧ (2 < n ∧ b2 / 64 = 2)
      · rw [if_pos k2, if_neg (by omega)]
      · rw [if_neg k2, if_neg (by omega)]
  · by_cases k : 240 ≤ b0 ∧ b0 < 245 ∧ tl n 1 b1 ∧ tl n 2 b2 ∧ tl n 3 b3 ∧ 65536 ≤ 262144 * (b0 - 240) + 4096 * (b1 - 128) + 64 * (b2 - 128) + (b3 - 128) ∧ 262144 * (b0 - 240) + 4096 * (b1 - 128) + 64 * (b2 - 128) + (b3 - 128) ≤ 1114111
    · have k' := k
      unfold tl at k'
      refine good (262144 * (b0 - 240) + 4096 * (b1 - 128) + 64 * (b2 - 128) + (b3 - 128), 4) (.inl (by simp)) (by unfold decR; rw [if_neg hn, if_neg c0, if_neg (by omega), if_neg (by omega), if_pos k]) ?_
      unfold decodeN
      rw [if_neg c0, if_neg (by omega), if_neg (by omega), if_pos (by omega), if_pos (by omega)]
      exact Prod.ext (by show _ = _; omega) rfl
    · have k' := k
      unfold tl at k'
      refine bad (by unfold decR; rw [if_neg hn, if_neg c0, if_neg (by omega), if_neg (by omega), if_neg k]) ?_
      unfold decodeN
      rw [if_neg c0, if_neg (by omega), if_neg (by omega)]
      by_cases k2 : b0 / 8 = 30 ∧ (1 < n ∧ b1 / 64 = 2) ∧ (2 < n ∧ b2 / 64 = 2) ∧ (3 < n ∧ b3 / 64 = 2)
      · rw [if_pos k2, if_neg (by omega)]
      · rw [if_neg k2]
def byt (l : List UInt8) (i : Nat) : Nat := (l.getD i 0).toNat
theorem byt_lt (l : List UInt8) (i : Nat) : byt l i < 256 := UInt8.toNat_lt _
def dec (l : List UInt8) : Nat × Nat := decR l.length (byt l 0) (byt l 1) (byt l 2) (byt l 3)
theorem get_byt (l : List UInt8) (i : Nat) : ((⟨l.toArray⟩ : ByteArray).get! i).toNat = byt l i := by
  unfold byt
  show (l.toArray[i]!).toNat = _
  by_cases h : i < l.length
  · simp [h, List.getD_eq_getElem?_getD]
  · simp [h, List.getD_eq_getElem?_getD]
    rfl
theorem decodeL_byt (l : List UInt8) : decodeL l = decodeN l.length (byt l 0) (byt l 1) (byt l 2) (byt l 3) := by
  unfold decodeL
  rw [decode_at]
  simp only [Nat.zero_add, get_byt]
  rfl
theorem dec_decodeL (l : List UInt8) (h : l ≠ []) : dec l = if decodeL l = (65533, 1) then (0, 0) else decodeL l := by
  rw [decodeL_byt]
  exact decR_decodeN _ _ _ _ _ (by simpa using h) (byt_lt _ _) (byt_lt _ _) (byt_lt _ _) (byt_lt _ _)
theorem bt_byt (s : ByteArray) (i : Int) : bt s i = (byt s.data.toList i.toNat : Int) := by
  unfold bt byt
  split
  · rename_i h
    have : i.toNat < s.data.toList.length := by rw [Array.length_toList]; exact h
    simp only [List.getD_eq_getElem?_getD, List.getElem?_eq_getElem this, Option.getD_some, Array.getElem_toList]
    rfl
  · rename_i h
    have : s.data.toList.length ≤ i.toNat := by rw [Array.length_toList]; exact Nat.not_lt.1 h
    simp [List.getD_eq_getElem?_getD, List.getElem?_eq_none this]
theorem dec_width (l : List UInt8) : (dec l).2 ≤ 4 ∧ (dec l).2 ≤ l.length ∧ ((dec l).2 = 0 → (dec l).1 = 0) ∧ (dec l).1 ≤ 1114111 := by
  have h0 := byt_lt l 0
  have h1 := byt_lt l 1
  have h2 := byt_lt l 2
  have h3 := byt_lt l 3
  unfold dec decR tl
  repeat' split
  all_goals (refine ⟨?_, ?_, ?_, ?_⟩ <;> first | (simp only; omega) | (intro _; rfl) | (intro h; simp at h))
def validF : Nat → List UInt8 → Bool
  | 0, l => l.isEmpty
  | f + 1, l => if l.isEmpty then true else if (dec l).2 = 0 then false else validF f (l.drop (dec l).2)
theorem validGoD_validF : ∀ (f : Nat) (l : List UInt8), l.length ≤ f → validGoD f l = validF f l
  | 0, l, h => by
    have : l = [] := List.eq_nil_of_length_eq_zero (by omega)
    subst this; rfl
  | f + 1, l, h => by
    by_cases hl : l = []
    · unfold validGoD validF; rw [if_pos hl, if_pos (by simp [hl])]
    · have e := dec_decodeL l hl
      have hw := dec_width l
      have hG : validGoD (f + 1) l = if (decodeL l).1 = 65533 ∧ (decodeL l).2 = 1 then false else validGoD f (l.drop (decodeL l).2) := by
        conv => lhs; unfold validGoD
        rw [if_neg hl]
      have hF : validF (f + 1) l = if (dec l).2 = 0 then false else validF f (l.drop (dec l).2) := by
        conv => lhs; unfold validF
        rw [if_neg (by simpa using hl)]
      rw [hG, hF]
      by_cases hb : decodeL l = (65533, 1)
      · rw [if_pos (by rw [hb]; exact ⟨rfl, rfl⟩), if_pos (by rw [e, if_pos hb])]
      · rw [if_neg hb] at e
        have hpos := decodeL_width l
        rw [if_neg (fun h => hb (Prod.ext h.1 h.2)), if_neg (by rw [e]; omega), e]
        refine validGoD_validF f _ ?_
        rw [List.length_drop]; omega
theorem validD_validF (l : List UInt8) : validD l = validF l.length l := validGoD_validF _ _ (Nat.le_refl _)
end Go.Proofs.YtkdndabpaajkaaaGreatDoor.U8
namespace Go.Proofs.YtkdndabpaajkaaaGreatDoor.U8
open Go.RowKit Go.Proofs.YtkdndabpaajkaaaGreatDoor.A Go.Proofs.YtkdndabpaajkaaaGreatDoorW.PrintWords Go.Proofs.YtkdndabpaajkaaaGreatDoorW.PrintLast Go.Lib
set_option linter.unusedVariables false
set_option linter.unusedSimpArgs false
theorem w64 {x : Int} (h0 : -9223372036854775808 ≤ x) (h1 : x ≤ 9223372036854775807) : wrap64 x = x := by unfold wrap64; omega
theorem toList_nil (s : ByteArray) : (s.toList = ([] : List UInt8)) ↔ s.size = 0 := by
  rw [ByteArray.toList_eq]
  constructor
  · intro h
    have := data_length s
    rw [h] at this
    exact this.symm
  · intro h
    exact List.eq_nil_of_length_eq_zero (by rw [data_length]; exact h)
theorem tail_tl (s : ByteArray) (i : Nat) (I : Int) (hi : I = i) : R02_tail.f s I = some (decide (tl s.size i (byt s.data.toList i))) := by
  subst hi
  unfold R02_tail.f
  have e := bt_byt s (i : Int)
  rw [Int.toNat_natCast] at e
  rw [e]
  by_cases h : i < s.size
  · rw [if_pos (by omega), if_pos (by omega)]
    by_cases h2 : 128 ≤ byt s.data.toList i
    · rw [if_pos (by omega)]
      exact congrArg some (by rw [decide_eq_decide]; unfold tl; omega)
    · rw [if_neg (by omega)]
      exact congrArg some (decide_eq_false (by unfold tl; omega)).symm
  · rw [if_neg (by omega)]
    exact congrArg some (decide_eq_false (by unfold tl; omega)).symm
theorem V3 (x0 x1 x2 : Nat) (a : 224 ≤ x0 ∧ x0 < 240) (b : 128 ≤ x1 ∧ x1 < 192) (c : 128 ≤ x2 ∧ x2 < 192) : wrap64 ((wrap64 ((wrap64 ((wrap64 (4096 * (wrap64 ((x0 : Int) - 224)))) + (wrap64 (64 * (wrap64 ((x1 : Int) - 128)))))) + (x2 : Int))) - 128) = ((4096 * (x0 - 224) + 64 * (x1 - 128) + (x2 - 128) : Nat) : Int) := by
  rw [w64 (x := (x0 : Int) - 224) (by omega) (by omega), w64 (x := (x1 : Int) - 128) (by omega) (by omega), w64 (x := 4096 * ((x0 : Int) - 224)) (by omega) (by omega), w64 (x := 64 * ((x1 : Int) - 128)) (by omega) (by omega), w64 (x := 4096 * ((x0 : Int) - 224) + 64 * ((x1 : Int) - 128)) (by omega) (by omega), w64 (x := 4096 * ((x0 : Int) - 224) + 64 * ((x1 : Int) - 128) + x2) (by omega) (by omega), w64 (by omega) (by omega)]
  omega
theorem V4 (x0 x1 x2 x3 : Nat) (a : 240 ≤ x0 ∧ x0 < 245) (b : 128 ≤ x1 ∧ x1 < 192) (c : 128 ≤ x2 ∧ x2 < 192) (d : 128 ≤ x3 ∧ x3 < 192) : wrap64 ((wrap64 ((wrap64 ((wrap64 ((wrap64 (262144 * (wrap64 ((x0 : Int) - 240)))) + (wrap64 (4096 * (wrap64 ((x1 : Int) - 128)))))) + (wrap64 (64 * (wrap64 ((x2 : Int) - 128)))))) + (x3 : Int))) - 128) = ((262144 * (x0 - 240) + 4096 * (x1 - 128) + 64 * (x2 - 128) + (x3 - 128) : Nat) : Int) := by
  rw [w64 (x := (x0 : Int) - 240) (by omega) (by omega), w64 (x := (x1 : Int) - 128) (by omega) (by omega), w64 (x := (x2 : Int) - 128) (by omega) (by omega), w64 (x := 262144 * ((x0 : Int) - 240)) (by omega) (by omega), w64 (x := 4096 * ((x1 : Int) - 128)) (by omega) (by omega), w64 (x := 64 * ((x2 : Int) - 128)) (by omega) (by omega), w64 (x := 262144 * ((x0 : Int) - 240) + 4096 * ((x1 : Int) - 128)) (by omega) (by omega), w64 (x := 262144 * ((x0 : Int) - 240) + 4096 * ((x1 : Int) - 128) + 64 * ((x2 : Int) - 128)) (by omega) (by omega), w64 (x := 262144 * ((x0 : Int) - 240) + 4096 * ((x1 : Int) - 128) + 64 * ((x2 : Int) - 128) + x3) (by omega) (by omega), w64 (by omega) (by omega)]
  omega
theorem first_dec (s : ByteArray) (k : Nat) : R02_First.f (k + 5) s = some (((dec s.data.toList).1 : Int), ((dec s.data.toList).2 : Int)) := by
  have e0 : bt s 0 = byt s.data.toList 0 := bt_byt s 0
  have e1 : bt s 1 = byt s.data.toList 1 := bt_byt s 1
  have e2 : bt s 2 = byt s.data.toList 2 := bt_byt s 2
  have e3 : bt s 3 = byt s.data.toList 3 := bt_byt s 3
  have b0 := byt_lt s.data.toList 0
  have b1 := byt_lt s.data.toList 1
  have b2 := byt_lt s.data.toList 2
  have b3 := byt_lt s.data.toList 3
  have t1 := tail_tl s 1 1 rfl
  have t2 := tail_tl s 2 2 rfl
  have t3 := tail_tl s 3 3 rfl
  unfold dec
  rw [data_length]
  simp only [R02_First.f, R02_First.j0, R02_First.j1, R02_First.j2, R02_First.j3, t1, t2, t3, e0, e1, e2, e3, toList_nil, Option.bind_some, decide_eq_true_eq]
  clear e0 e1 e2 e3 t1 t2 t3
  generalize byt s.data.toList 0 = x0 at *
  generalize byt s.data.toList 1 = x1 at *
  generalize byt s.data.toList 2 = x2 at *
  generalize byt s.data.toList 3 = x3 at *
  generalize s.size = n at *
  have w0 : wrap64 (x0 : Int) = x0 := w64 (by omega) (by omega)
  have w1 : wrap64 (x1 : Int) = x1 := w64 (by omega) (by omega)
  have w2 : wrap64 (x2 : Int) = x2 := w64 (by omega) (by omega)
  have w3 : wrap64 (x3 : Int) = x3 := w64 (by omega) (by omega)
  simp only [w0, w1, w2, w3]
  clear w0 w1 w2 w3
  by_cases c : n = 0
  · rw [if_pos c]; unfold decR; rw [if_pos c]; rfl
  rw [if_neg c, if_pos (by omega)]
  by_cases c0 : x0 < 128
  · rw [if_pos (by omega)]; unfold decR; rw [if_neg c, if_pos c0]; rfl
  rw [if_neg (by omega)]
  by_cases c2 : x0 < 224
  · have n1 : ¬ (224 : Int) ≤ x0 := by omega
    have n2 : ¬ (240 : Int) ≤ x0 := by omega
    have n3 : (x0 : Int) < 224 := by omega
    by_cases k : 194 ≤ x0 ∧ tl n 1 x1
    · have k' := k.2
      unfold tl at k'
      have hR : decR n x0 x1 x2 x3 = (64 * (x0 - 192) + (x1 - 128), 2) := by
        unfold decR; rw [if_neg c, if_neg c0, if_pos ⟨k.1, c2, k.2⟩]
      rw [hR, if_pos (by omega), if_pos (by omega), if_pos k.2, if_pos (by omega)]
      rw [w64 (by omega) (by omega : ((x0 : Int) - 192) ≤ _), w64 (x := 64 * ((x0 : Int) - 192)) (by omega) (by omega), w64 (x := 64 * ((x0 : Int) - 192) + x1) (by omega) (by omega), w64 (x := 64 * ((x0 : Int) - 192) + x1 - 128) (by omega) (by omega)]
      exact congrArg some (Prod.ext (by show _ = _; simp only; omega) rfl)
    · have hR : decR n x0 x1 x2 x3 = (0, 0) := by
        unfold decR; rw [if_neg c, if_neg c0, if_neg (fun h => k ⟨h.1, h.2.2⟩), if_neg (fun h => absurd h.1 (by omega)), if_neg (fun h => absurd h.1 (by omega))]
      rw [hR]
      by_cases h1 : (194 : Int) ≤ x0
      · have h2 : ¬ tl n 1 x1 := fun h => k ⟨by omega, h⟩
        simp only [ge_iff_le, h1, h2, n1, n2, n3, if_true, if_false, Bool.false_eq_true]
        rfl
      · simp only [ge_iff_le, h1, n1, n2, if_true, if_false, Bool.false_eq_true]
        rfl
  have n0 : (194 : Int) ≤ x0 := by omega
  have n1 : (224 : Int) ≤ x0 := by omega
  have n3 : ¬ (x0 : Int) < 224 := by omega
  by_cases c3 : x0 < 240
  · have n2 : ¬ (240 : Int) ≤ x0 := by omega
    have n4 : (x0 : Int) < 240 := by omega
    simp only [ge_iff_le, n0, n1, n2, n3, n4, if_true, if_false, Bool.false_eq_true]
    by_cases k : tl n 1 x1 ∧ tl n 2 x2
    · have k1 := k.1
      have k2 := k.2
      unfold tl at k1 k2
      simp only [k.1, k.2, if_true]
      rw [if_pos (by omega), if_pos (by omega), V3 x0 x1 x2 (by omega) k1.2 k2.2]
      by_cases q : 2048 ≤ 4096 * (x0 - 224) + 64 * (x1 - 128) + (x2 - 128) ∧ (4096 * (x0 - 224) + 64 * (x1 - 128) + (x2 - 128) < 55296 ∨ 57343 < 4096 * (x0 - 224) + 64 * (x1 - 128) + (x2 - 128))
      · have hR : decR n x0 x1 x2 x3 = (4096 * (x0 - 224) + 64 * (x1 - 128) + (x2 - 128), 3) := by
          unfold decR; rw [if_neg c, if_neg c0, if_neg (by omega), if_pos ⟨by omega, c3, k.1, k.2, q⟩]
        rw [hR, if_pos (by omega)]
        by_cases q2 : 4096 * (x0 - 224) + 64 * (x1 - 128) + (x2 - 128) < 55296
        · rw [if_pos (by omega)]; rfl
        · rw [if_neg (by omega), if_pos (by omega)]; rfl
      · have hR : decR n x0 x1 x2 x3 = (0, 0) := by
          unfold decR; rw [if_neg c, if_neg c0, if_neg (by omega), if_neg (fun h => q h.2.2.2.2), if_neg (by omega)]
        rw [hR]
        by_cases q2 : 2048 ≤ 4096 * (x0 - 224) + 64 * (x1 - 128) + (x2 - 128)
        · rw [if_pos (by omega), if_neg (by omega), if_neg (by omega)]; rfl
        · rw [if_neg (by omega)]; rfl
    · have hR : decR n x0 x1 x2 x3 = (0, 0) := by
        unfold decR; rw [if_neg c, if_neg c0, if_neg (by omega), if_neg (fun h => k ⟨h.2.2.1, h.2.2.2.1⟩), if_neg (by omega)]
      rw [hR]
      by_cases h1 : tl n 1 x1
      · have h2 : ¬ tl n 2 x2 := fun h => k ⟨h1, h⟩
        simp only [h1, h2, if_true, if_false]; rfl
      · simp only [h1, if_true, if_false, Bool.false_eq_true]; rfl
  have n2 : (240 : Int) ≤ x0 := by omega
  have n4 : ¬ (x0 : Int) < 240 := by omega
  simp only [ge_iff_le, n0, n1, n2, n3, n4, if_true, if_false, Bool.false_eq_true]
  by_cases c4 : x0 < 245
  · have n5 : (x0 : Int) < 245 := by omega
    simp only [n5, if_true]
    by_cases k : tl n 1 x1 ∧ tl n 2 x2 ∧ tl n 3 x3
    · have k1 := k.1
      have k2 := k.2.1
      have k3 := k.2.2
      unfold tl at k1 k2 k3
      simp only [k.1, k.2.1, k.2.2, if_true]
      rw [if_pos (by omega), if_pos (by omega), if_pos (by omega), V4 x0 x1 x2 x3 (by omega) k1.2 k2.2 k3.2]
      by_cases q : 65536 ≤ 262144 * (x0 - 240) + 4096 * (x1 - 128) + 64 * (x2 - 128) + (x3 - 128) ∧ 262144 * (x0 - 240) + 4096 * (x1 - 128) + 64 * (x2 - 128) + (x3 - 128) ≤ 1114111
      · have hR : decR n x0 x1 x2 x3 = (262144 * (x0 - 240) + 4096 * (x1 - 128) + 64 * (x2 - 128) + (x3 - 128), 4) := by
          unfold decR; rw [if_neg c, if_neg c0, if_neg (by omega), if_neg (by omega), if_pos ⟨by omega, c4, k.1, k.2.1, k.2.2, q⟩]
        rw [hR, if_pos (by omega), if_pos (by omega)]; rfl
      · have hR : decR n x0 x1 x2 x3 = (0, 0) := by
          unfold decR; rw [if_neg c, if_neg c0, if_neg (by omega), if_neg (by omega), if_neg (fun h => q h.2.2.2.2.2)]
        rw [hR]
        by_cases q2 : 65536 ≤ 262144 * (x0 - 240) + 4096 * (x1 - 128) + 64 * (x2 - 128) + (x3 - 128)
        · rw [if_pos (by omega), if_neg (by omega)]; rfl
        · rw [if_neg (by omega)]; rfl
    · have hR : decR n x0 x1 x2 x3 = (0, 0) := by
        unfold decR; rw [if_neg c, if_neg c0, if_neg (by omega), if_neg (by omega), if_neg (fun h => k ⟨h.2.2.1, h.2.2.2.1, h.2.2.2.2.1⟩)]
      rw [hR]
      by_cases h1 : tl n 1 x1
      · by_cases h2 : tl n 2 x2
        · have h3 : ¬ tl n 3 x3 := fun h => k ⟨h1, h2, h⟩
          simp only [h1, h2, h3, if_true, if_false]; rfl
        · simp only [h1, h2, if_true, if_false, Bool.false_eq_true]; rfl
      · simp only [h1, if_true, if_false, Bool.false_eq_true]; rfl
  · have n5 : ¬ (x0 : Int) < 245 := by omega
    have hR : decR n x0 x1 x2 x3 = (0, 0) := by
      unfold decR; rw [if_neg c, if_neg c0, if_neg (by omega), if_neg (by omega), if_neg (by omega)]
    rw [hR]
    simp only [n5, if_false, Bool.false_eq_true]; rfl
theorem extract_toList (s : ByteArray) (i : Nat) : (s.extract i s.size).data.toList = s.data.toList.drop i := by
  have e : s.size = s.data.toList.length := (Array.length_toList).symm
  rw [ByteArray.data_extract, Array.toList_extract, e]
  simp [List.extract]
  exact List.take_of_length_le (by rw [List.length_drop]; omega)
theorem valid_l0 (s : ByteArray) (hs : s.size < 1000000) (k : Nat) : ∀ (m i : Nat), i ≤ s.size → s.size - i ≤ m → R02_Valid.l0 (k + m + 6) s i = some (validF m (s.data.toList.drop i))
  | m, i, h1, h2 => by
    by_cases hi : i = s.size
    · have e : s.data.toList.drop i = [] := List.drop_of_length_le (by rw [data_length]; omega)
      have hf : validF m [] = true := by cases m <;> rfl
      rw [e, hf]
      show R02_Valid.l0 (k + m + 5 + 1) s i = _
      simp only [R02_Valid.l0]
      rw [if_neg (by omega)]
    · obtain ⟨m, rfl⟩ : ∃ q, m = q + 1 := ⟨m - 1, by omega⟩
      have hl : (s.data.toList.drop i).length = s.size - i := by rw [List.length_drop, data_length]
      have hne : ¬ ((s.data.toList.drop i).isEmpty = true) := by
        intro h; rw [List.isEmpty_iff] at h; rw [h] at hl; simp at hl; omega
      have hw := dec_width (s.data.toList.drop i)
      have hf := first_dec (s.extract i s.size) (k + m + 1)
      rw [extract_toList] at hf
      show R02_Valid.l0 (k + m + 6 + 1) s i = _
      rw [R02_Valid.l0]
      rw [if_pos (by omega), if_pos (by omega), if_pos (by omega), Int.toNat_natCast, show k + m + 6 = k + m + 1 + 5 by omega, hf]
      simp only [Option.bind_some]
      by_cases hz : (dec (s.data.toList.drop i)).2 = 0
      · rw [if_pos (by omega)]
        unfold validF
        rw [if_neg hne, if_pos hz]
      · rw [if_neg (by omega), w64 (by omega) (by omega)]
        have hv := valid_l0 s hs k m (i + (dec (s.data.toList.drop i)).2) (by omega) (by omega)
        rw [show ((i : Int) + ((dec (s.data.toList.drop i)).2 : Int)) = ((i + (dec (s.data.toList.drop i)).2 : Nat) : Int) by omega, show k + m + 1 + 5 = k + m + 6 by omega, hv]
        conv => rhs; unfold validF
        rw [if_neg hne, if_neg hz, List.drop_drop]
theorem valid_ev (s : ByteArray) (hs : s.size < 1000000) (k : Nat) (hk : s.size + 6 ≤ k) : R02_Valid.f k s = some (validD s.data.toList) := by
  have h := valid_l0 s hs (k - s.size - 6) s.size 0 (by omega) (by omega)
  rw [validD_validF, data_length]
  unfold R02_Valid.f
  rw [show k - s.size - 6 + s.size + 6 = k by omega] at h
  exact h
theorem byt_drop (l : List UInt8) (i j : Nat) : byt (l.drop i) j = byt l (i + j) := by
  unfold byt
  rw [List.getD_eq_getElem?_getD, List.getD_eq_getElem?_getD, List.getElem?_drop]
theorem size_len (b : ByteArray) : b.size = b.data.toList.length := (Array.length_toList).symm
theorem get_byt2 (s : ByteArray) (i : Nat) : (s.get! i).toNat = byt s.data.toList i := by
  have := get_byt s.data.toList i
  have e : (⟨s.data.toList.toArray⟩ : ByteArray) = s := by cases s; simp
  rwa [e] at this
theorem decode_drop (s : ByteArray) (i : Nat) : Utf8.decode s i = decodeL (s.data.toList.drop i) := by
  rw [decode_at, decodeL_byt, get_byt2, get_byt2, get_byt2, get_byt2, byt_drop, byt_drop, byt_drop, byt_drop, List.length_drop, ← size_len]
  rfl
theorem decode_dec (s : ByteArray) (i : Nat) (hi : i < s.size) (h : (dec (s.data.toList.drop i)).2 ≠ 0) : Utf8.decode s i = dec (s.data.toList.drop i) := by
  have hne : s.data.toList.drop i ≠ [] := by
    intro e
    have := congrArg List.length e
    rw [List.length_drop, ← size_len] at this
    simp at this
    omega
  rw [decode_drop]
  have e := dec_decodeL _ hne
  by_cases hb : decodeL (s.data.toList.drop i) = (65533, 1)
  · rw [if_pos hb] at e; rw [e] at h; exact absurd rfl h
  · rw [if_neg hb] at e; exact e.symm
def runesF : Nat → List UInt8 → List Nat
  | 0, _ => []
  | f + 1, l => if l.isEmpty then [] else if (dec l).2 = 0 then [] else (dec l).1 :: runesF f (l.drop (dec l).2)
def runesOf (l : List UInt8) : List Nat := runesF l.length l
def ints (l : List Nat) : List Int := l.map (fun x : Nat => (x : Int))
theorem runes_l0 (s : ByteArray) (hs : s.size < 1000000) (k : Nat) : ∀ (m i : Nat) (xs : List Int), i ≤ s.size → s.size - i ≤ m → xs.length ≤ i → R02_Runes.l0 (k + m + 7) s xs (i : Int) = some (xs ++ ints (runesF m (s.data.toList.drop i)))
  | 0, i, xs, h1, h2, h3 => by
    rw [show k + 0 + 7 = k + 6 + 1 by omega, R02_Runes.l0, if_neg (by omega)]
    show some xs = some (xs ++ [])
    rw [List.append_nil]
  | m + 1, i, xs, h1, h2, h3 => by
    have hl : (s.data.toList.drop i).length = s.size - i := by rw [List.length_drop, ← size_len]
    rw [show k + (m + 1) + 7 = k + m + 7 + 1 by omega, R02_Runes.l0, runesF]
    by_cases hi : i = s.size
    · have e : s.data.toList.drop i = [] := List.drop_of_length_le (by rw [← size_len]; omega)
      rw [if_neg (by omega), e]
      show some xs = some (xs ++ [])
      rw [List.append_nil]
    · have hne : ¬ ((s.data.toList.drop i).isEmpty = true) := by
        intro h; rw [List.isEmpty_iff] at h; rw [h] at hl; simp at hl; omega
      have hw := dec_width (s.data.toList.drop i)
      have hf := first_dec (s.extract i s.size) (k + m + 2)
      rw [extract_toList] at hf
      rw [if_neg hne, if_pos (by omega), if_pos (by omega), if_pos (by omega), Int.toNat_natCast, show k + m + 7 = k + m + 2 + 5 by omega, hf, Option.bind_some]
      dsimp only
      by_cases hz : (dec (s.data.toList.drop i)).2 = 0
      · rw [if_pos (by omega), if_pos hz]
        show some xs = some (xs ++ [])
        rw [List.append_nil]
      · rw [if_neg (by omega), if_neg hz, if_pos (by omega), w64 (by omega) (by omega), show ((i : Int) + ((dec (s.data.toList.drop i)).2 : Int)) = ((i + (dec (s.data.toList.drop i)).2 : Nat) : Int) by omega, show k + m + 2 + 5 = k + m + 7 by omega]
        rw [runes_l0 s hs k m (i + (dec (s.data.toList.drop i)).2) _ (by omega) (by omega) (by rw [List.length_append]; show xs.length + 1 ≤ _; omega), List.append_assoc, ← List.drop_drop]
        rfl
theorem runes_ev (s : ByteArray) (hs : s.size < 1000000) (k : Nat) (hk : s.size + 7 ≤ k) : R02_Runes.f k s = some (ints (runesOf s.data.toList)) := by
  have h := runes_l0 s hs 0 s.size 0 [] (by omega) (by omega) (by simp)
  have h0 : R02_Runes.f (s.size + 7) s = some (ints (runesOf s.data.toList)) := by
    unfold R02_Runes.f runesOf
    rw [← size_len]
    rw [show 0 + s.size + 7 = s.size + 7 by omega] at h
    exact h
  exact at_rounds (fun k => R02_Runes.mono s k) hk h0
theorem dec_enc (l : List UInt8) (h : (dec l).2 ≠ 0) : decodeL l = dec l ∧ ((dec l).1 < 55296 ∨ (57343 < (dec l).1 ∧ (dec l).1 ≤ 1114111)) ∧ encodeRune ((dec l).1 : Int) = l.take (dec l).2 ∧ l ≠ [] := by
  have hne : l ≠ [] := by
    rintro rfl
    exact h rfl
  have e := dec_decodeL l hne
  have e2 : ¬ decodeL l = (65533, 1) := fun hh => by rw [if_pos hh] at e; rw [e] at h; exact h rfl
  rw [if_neg e2] at e
  refine ⟨e.symm, ?_, ?_, hne⟩
  · have h0 := byt_lt l 0
    have h1 := byt_lt l 1
    have h2 := byt_lt l 2
    have h3 := byt_lt l 3
    revert h
    unfold dec decR tl
    repeat' split
    all_goals first | (intro h; exact absurd rfl h) | (intro h; simp only; omega)
  · rw [e]
    exact encode_decode l hne (fun hh => e2 (Prod.ext hh.1 hh.2))
def okC (c : Nat) : Prop := c < 55296 ∨ (57343 < c ∧ c ≤ 1114111)
theorem u8n (n : Nat) (h : n < 256) : (n.toUInt8).toNat = n := by
  show (UInt8.ofNat n).toNat = n
  rw [UInt8.toNat_ofNat']; omega
theorem byt0 (b : UInt8) (l : List UInt8) : byt (b :: l) 0 = b.toNat := rfl
theorem byt1 (a b : UInt8) (l : List UInt8) : byt (a :: b :: l) 1 = b.toNat := rfl
theorem byt2 (a b c : UInt8) (l : List UInt8) : byt (a :: b :: c :: l) 2 = c.toNat := rfl
theorem byt3 (a b c d : UInt8) (l : List UInt8) : byt (a :: b :: c :: d :: l) 3 = d.toNat := rfl
theorem dec_encode (c : Nat) (h : okC c) (l : List UInt8) : dec (encodeRune (c : Int) ++ l) = (c, (encodeRune (c : Int)).length) := by
  unfold okC at h
  unfold encodeRune
  by_cases c1 : c < 128
  · rw [encodeRuneZ_one (by omega) (by omega)]
    simp only [List.map_cons, List.map_nil, List.cons_append, List.nil_append, Int.toNat_natCast]
    unfold dec decR
    rw [byt0, u8n c (by omega), if_neg (by simp), if_pos c1]
    rfl
  by_cases c2 : c < 2048
  · rw [encodeRuneZ_two (by omega) (by omega)]
    simp only [List.map_cons, List.map_nil, List.cons_append, List.nil_append]
    rw [show (192 + (c : Int) / 64).toNat = 192 + c / 64 by omega, show (128 + (c : Int) % 64).toNat = 128 + c % 64 by omega]
    unfold dec decR tl
    rw [byt0, byt1, u8n _ (by omega), u8n _ (by omega), if_neg (by simp), if_neg (by omega), if_pos ⟨by omega, by omega, by simp, by omega, by omega⟩]
    exact Prod.ext (by show 64 * (192 + c / 64 - 192) + (128 + c % 64 - 128) = c; omega) rfl
  by_cases c3 : c < 65536
  · rw [encodeRuneZ_three (by omega)]
    simp only [List.map_cons, List.map_nil, List.cons_append, List.nil_append]
    rw [show (224 + (c : Int) / 4096).toNat = 224 + c / 4096 by omega, show (128 + (c : Int) / 64 % 64).toNat = 128 + c / 64 % 64 by omega, show (128 + (c : Int) % 64).toNat = 128 + c % 64 by omega]
    have e : 4096 * (224 + c / 4096 - 224) + 64 * (128 + c / 64 % 64 - 128) + (128 + c % 64 - 128) = c := by omega
    unfold dec decR tl
    rw [byt0, byt1, byt2, u8n _ (by omega), u8n _ (by omega), u8n _ (by omega), if_neg (by simp), if_neg (by omega), if_neg (by omega), if_pos ⟨by omega, by omega, ⟨by simp, by omega, by omega⟩, ⟨by simp, by omega, by omega⟩, by omega, by omega⟩]
    exact Prod.ext e rfl
  · rw [encodeRuneZ_four (by omega) (by omega)]
    simp only [List.map_cons, List.map_nil, List.cons_append, List.nil_append]
    rw [show (240 + (c : Int) / 262144).toNat = 240 + c / 262144 by omega, show (128 + (c : Int) / 4096 % 64).toNat = 128 + c / 4096 % 64 by omega, show (128 + (c : Int) / 64 % 64).toNat = 128 + c / 64 % 64 by omega, show (128 + (c : Int) % 64).toNat = 128 + c % 64 by omega]
    have e : 262144 * (240 + c / 262144 - 240) + 4096 * (128 + c / 4096 % 64 - 128) + 64 * (128 + c / 64 % 64 - 128) + (128 + c % 64 - 128) = c := by omega
    unfold dec decR tl
    rw [byt0, byt1, byt2, byt3, u8n _ (by omega), u8n _ (by omega), u8n _ (by omega), u8n _ (by omega), if_neg (by simp), if_neg (by omega), if_neg (by omega), if_neg (by omega), if_pos ⟨by omega, by omega, ⟨by simp, by omega, by omega⟩, ⟨by simp, by omega, by omega⟩, ⟨by simp, by omega, by omega⟩, by omega, by omega⟩]
    exact Prod.ext e rfl
def encL : List Nat → List UInt8
  | [] => []
  | c :: cs => encodeRune (c : Int) ++ encL cs
theorem enc_pos (c : Nat) : 1 ≤ (encodeRune (c : Int)).length := by
  unfold encodeRune
  rw [List.length_map]
  exact (encodeRuneZ_length (c : Int)).1
theorem runes_enc : ∀ (cs : List Nat) (m : Nat), (∀ c ∈ cs, okC c) → (encL cs).length ≤ m → runesF m (encL cs) = cs ∧ validF m (encL cs) = true
  | [], m, h, hm => by cases m <;> exact ⟨rfl, rfl⟩
  | c :: cs, m, h, hm => by
    have hp := enc_pos c
    rw [encL, List.length_append] at hm
    obtain ⟨m, rfl⟩ : ∃ q, m = q + 1 := ⟨m - 1, by omega⟩
    have hd := dec_encode c (h c (List.mem_cons_self ..)) (encL cs)
    have hne : ¬ ((encL (c :: cs)).isEmpty = true) := by
      intro e
      rw [List.isEmpty_iff] at e
      have := congrArg List.length e
      rw [encL, List.length_append, List.length_nil] at this
      omega
    obtain ⟨i1, i2⟩ := runes_enc cs m (fun x hx => h x (List.mem_cons_of_mem _ hx)) (by omega)
    rw [runesF, validF, if_neg hne, if_neg hne, encL, hd]
    dsimp only
    rw [if_neg (by omega), if_neg (by omega), List.drop_left, i1, i2]
    exact ⟨rfl, rfl⟩
theorem enc_runes : ∀ (m : Nat) (l : List UInt8), l.length ≤ m → validF m l = true → encL (runesF m l) = l ∧ ∀ c ∈ runesF m l, okC c
  | 0, l, hl, hv => by
    have : l = [] := List.eq_nil_of_length_eq_zero (by omega)
    subst this
    exact ⟨rfl, fun c hc => by simp [runesF] at hc⟩
  | m + 1, l, hl, hv => by
    by_cases he : l.isEmpty = true
    · rw [runesF, if_pos he]
      rw [List.isEmpty_iff] at he
      subst he
      exact ⟨rfl, fun c hc => by simp at hc⟩
    · rw [validF, if_neg he] at hv
      by_cases hz : (dec l).2 = 0
      · rw [if_pos hz] at hv; cases hv
      · rw [if_neg hz] at hv
        obtain ⟨_, ho, hen, _⟩ := dec_enc l hz
        obtain ⟨i1, i2⟩ := enc_runes m (l.drop (dec l).2) (by rw [List.length_drop]; omega) hv
        rw [runesF, if_neg he, if_neg hz, encL, i1, hen, List.take_append_drop]
        refine ⟨rfl, fun c hc => ?_⟩
        rcases List.mem_cons.1 hc with rfl | hc
        · exact ho
        · exact i2 c hc
theorem valid_runes (a : ByteArray) (hv : validD a.data.toList = true) : encL (runesOf a.data.toList) = a.data.toList ∧ ∀ c ∈ runesOf a.data.toList, okC c := by
  rw [validD_validF] at hv
  exact enc_runes _ _ (Nat.le_refl _) hv
theorem valid_runesL (x : List UInt8) (h : validD x = true) : encL (runesOf x) = x ∧ ∀ c ∈ runesOf x, okC c := valid_runes ⟨x.toArray⟩ h
theorem count_runes (s : ByteArray) : ∀ (cs : List Nat) (f pos : Nat), (∀ c ∈ cs, okC c) → pos ≤ s.size → s.data.toList.drop pos = encL cs → s.size - pos ≤ f → Lib.runeCountFrom s f pos = cs.length
  | [], f, pos, ho, hp, hd, hf => by
    have hl := congrArg List.length hd
    rw [List.length_drop, ← size_len] at hl
    have e : (encL []).length = 0 := rfl
    exact Lib.runeCountFrom_end s f pos (by omega)
  | c :: cs, f, pos, ho, hp, hd, hf => by
    have hl := congrArg List.length hd
    have hp1 := enc_pos c
    rw [List.length_drop, ← size_len, encL, List.length_append] at hl
    have hlt : pos < s.size := by omega
    obtain ⟨f, rfl⟩ : ∃ q, f = q + 1 := ⟨f - 1, by omega⟩
    have hdec : dec (s.data.toList.drop pos) = (c, (encodeRune (c : Int)).length) := by rw [hd, encL]; exact dec_encode c (ho c (List.mem_cons_self ..)) _
    have e : Utf8.decode s pos = (c, (encodeRune (c : Int)).length) := by
      rw [decode_dec s pos hlt (by rw [hdec]; show (encodeRune (c : Int)).length ≠ 0; omega), hdec]
    rw [Lib.runeCountFrom, if_pos hlt, e, List.length_cons]
    rw [count_runes s cs f (pos + (encodeRune (c : Int)).length) (fun x hx => ho x (List.mem_cons_of_mem _ hx)) (by omega) (by rw [← List.drop_drop, hd, encL, List.drop_left]) (by omega)]
    omega
theorem count_ev (s : ByteArray) (hv : validD s.data.toList = true) : Lib.runeCount s = (runesOf s.data.toList).length := by
  obtain ⟨e1, o1⟩ := valid_runesL _ hv
  exact count_runes s _ s.size 0 o1 (Nat.zero_le _) e1.symm (by omega)
def smallI (c : Int) : Int := if (65 ≤ c ∧ c ≤ 90) ∨ (192 ≤ c ∧ c ≤ 222 ∧ ¬ c = 215) ∨ (913 ≤ c ∧ c ≤ 937 ∧ ¬ c = 930) ∨ (1040 ≤ c ∧ c ≤ 1071) then c + 32 else c
theorem small_q (c : Int) (h0 : 0 ≤ c) (hc : c ≤ 1114111) : name_Small.f c = some (smallI c) := by
  by_cases e1 : c = 215
  · subst e1; decide +kernel
  by_cases e3 : c = 930
  · subst e3; decide +kernel
  have n1 : (c = 215) = False := eq_false e1
  have n3 : (c = 930) = False := eq_false e3
  have hw : wrap32 (c + 32) = c + 32 := by unfold wrap32; omega
  have cs : c < 65 ∨ (65 ≤ c ∧ c ≤ 90) ∨ (91 ≤ c ∧ c < 192) ∨ (192 ≤ c ∧ c ≤ 222) ∨ (223 ≤ c ∧ c < 913) ∨ (913 ≤ c ∧ c ≤ 937) ∨ (938 ≤ c ∧ c < 1040) ∨ (1040 ≤ c ∧ c ≤ 1071) ∨ 1072 ≤ c := by omega
  rcases cs with h | h | h | h | h | h | h | h | h
  all_goals (
    (first | have l65 : (65 ≤ c) = True := eq_true (by omega) | have l65 : (65 ≤ c) = False := eq_false (by omega)); (first | have u90 : (c ≤ 90) = True := eq_true (by omega) | have u90 : (c ≤ 90) = False := eq_false (by omega))
    (first | have l192 : (192 ≤ c) = True := eq_true (by omega) | have l192 : (192 ≤ c) = False := eq_false (by omega)); (first | have u222 : (c ≤ 222) = True := eq_true (by omega) | have u222 : (c ≤ 222) = False := eq_false (by omega))
    (first | have l913 : (913 ≤ c) = True := eq_true (by omega) | have l913 : (913 ≤ c) = False := eq_false (by omega)); (first | have u937 : (c ≤ 937) = True := eq_true (by omega) | have u937 : (c ≤ 937) = False := eq_false (by omega))
    (first | have l1040 : (1040 ≤ c) = True := eq_true (by omega) | have l1040 : (1040 ≤ c) = False := eq_false (by omega)); (first | have u1071 : (c ≤ 1071) = True := eq_true (by omega) | have u1071 : (c ≤ 1071) = False := eq_false (by omega))
    simp only [name_Small.f, name_between.f, smallI, ge_iff_le, n1, n3, hw, l65, u90, l192, u222, l913, u937, l1040, u1071, Option.bind_some, decide_true, decide_false, Bool.false_eq_true, Bool.true_eq_false, if_true, if_false, reduceIte, and_true, true_and, and_false, false_and, or_true, true_or, or_false, false_or, and_self, or_self, not_true, not_false_eq_true, ne_eq])
theorem small_r (c : Int) (h0 : 0 ≤ c) (hc : c ≤ 1114111) : R02_Small.f c = some (smallI c) := by
  by_cases e1 : c = 215
  · subst e1; decide +kernel
  by_cases e3 : c = 930
  · subst e3; decide +kernel
  have n1 : (c = 215) = False := eq_false e1
  have n3 : (c = 930) = False := eq_false e3
  have hw : wrap64 (c + 32) = c + 32 := by unfold wrap64; omega
  have cs : c < 65 ∨ (65 ≤ c ∧ c ≤ 90) ∨ (91 ≤ c ∧ c < 192) ∨ (192 ≤ c ∧ c ≤ 222) ∨ (223 ≤ c ∧ c < 913) ∨ (913 ≤ c ∧ c ≤ 937) ∨ (938 ≤ c ∧ c < 1040) ∨ (1040 ≤ c ∧ c ≤ 1071) ∨ 1072 ≤ c := by omega
  rcases cs with h | h | h | h | h | h | h | h | h
  all_goals (
    (first | have l65 : (65 ≤ c) = True := eq_true (by omega) | have l65 : (65 ≤ c) = False := eq_false (by omega)); (first | have u90 : (c ≤ 90) = True := eq_true (by omega) | have u90 : (c ≤ 90) = False := eq_false (by omega))
    (first | have l192 : (192 ≤ c) = True := eq_true (by omega) | have l192 : (192 ≤ c) = False := eq_false (by omega)); (first | have u222 : (c ≤ 222) = True := eq_true (by omega) | have u222 : (c ≤ 222) = False := eq_false (by omega))
    (first | have l913 : (913 ≤ c) = True := eq_true (by omega) | have l913 : (913 ≤ c) = False := eq_false (by omega)); (first | have u937 : (c ≤ 937) = True := eq_true (by omega) | have u937 : (c ≤ 937) = False := eq_false (by omega))
    (first | have l1040 : (1040 ≤ c) = True := eq_true (by omega) | have l1040 : (1040 ≤ c) = False := eq_false (by omega)); (first | have u1071 : (c ≤ 1071) = True := eq_true (by omega) | have u1071 : (c ≤ 1071) = False := eq_false (by omega))
    simp only [R02_Small.f, smallI, ge_iff_le, n1, n3, hw, l65, u90, l192, u222, l913, u937, l1040, u1071, Option.bind_some, decide_true, decide_false, Bool.false_eq_true, Bool.true_eq_false, if_true, if_false, reduceIte, and_true, true_and, and_false, false_and, or_true, true_or, or_false, false_or, and_self, or_self, not_true, not_false_eq_true, ne_eq])
theorem small_ok (c : Nat) (h : okC c) : okC (smallI (c : Int)).toNat ∧ smallI (c : Int) = (((smallI (c : Int)).toNat : Nat) : Int) := by
  unfold okC at *
  unfold smallI
  split <;> omega
theorem tdB (a b : Nat) : Int.tdiv (a : Int) (b : Int) = ((a / b : Nat) : Int) := by
  rw [Int.tdiv_eq_ediv_of_nonneg (by omega)]; rfl
theorem tmB (a b : Nat) : Int.tmod (a : Int) (b : Int) = ((a % b : Nat) : Int) := by
  rw [Int.tmod_eq_emod_of_nonneg (by omega)]; rfl
theorem dwB (c b : Nat) (hb : 0 < b) (h : c ≤ 1114111) : wrap64 (Int.tdiv (c : Int) (b : Int)) = ((c / b : Nat) : Int) := by
  rw [tdB]
  have : c / b ≤ c := Nat.div_le_self c b
  generalize c / b = q at this
  rw [w64 (by omega) (by omega)]
theorem bytesR_q (c : Nat) (h : okC c) : R02_Bytes.f (c : Int) = some ⟨(encodeRune (c : Int)).toArray⟩ := by
  have hc : c ≤ 1114111 := by unfold okC at h; omega
  unfold R02_Bytes.f
  rw [show wrap64 (Int.tdiv (c : Int) 64) = ((c / 64 : Nat) : Int) from dwB c 64 (by decide) hc, show wrap64 (Int.tdiv (c : Int) 4096) = ((c / 4096 : Nat) : Int) from dwB c 4096 (by decide) hc, show wrap64 (Int.tdiv (c : Int) 262144) = ((c / 262144 : Nat) : Int) from dwB c 262144 (by decide) hc,
    show Int.tmod (c : Int) 64 = ((c % 64 : Nat) : Int) from tmB c 64, show Int.tmod ((c / 64 : Nat) : Int) 64 = ((c / 64 % 64 : Nat) : Int) from tmB (c / 64) 64, show Int.tmod ((c / 4096 : Nat) : Int) 64 = ((c / 4096 % 64 : Nat) : Int) from tmB (c / 4096) 64]
  by_cases h1 : c < 128
  · rw [if_pos (by omega)]
    unfold encodeRune
    rw [encodeRuneZ_one (by omega) (by omega), show ((c : Int)) % 256 = c by omega]; rfl
  rw [if_neg (by omega)]
  have b2 : (128 + ((c % 64 : Nat) : Int)) % 256 = 128 + (c : Int) % 64 := by omega
  by_cases h2 : c < 2048
  · rw [if_pos (by omega)]
    unfold encodeRune
    rw [encodeRuneZ_two (by omega) (by omega), w64 (by omega) (by omega), w64 (by omega) (by omega), b2, show (192 + ((c / 64 : Nat) : Int)) % 256 = 192 + (c : Int) / 64 by omega]; rfl
  rw [if_neg (by omega)]
  have b3 : (128 + ((c / 64 % 64 : Nat) : Int)) % 256 = 128 + (c : Int) / 64 % 64 := by omega
  by_cases h3 : c < 65536
  · rw [if_pos (by omega)]
    unfold encodeRune
    rw [encodeRuneZ_three (by unfold okC at h; omega), w64 (by omega) (by omega), w64 (by omega) (by omega), w64 (by omega) (by omega), b2, b3, show (224 + ((c / 4096 : Nat) : Int)) % 256 = 224 + (c : Int) / 4096 by omega]; rfl
  · rw [if_neg (by omega)]
    unfold encodeRune
    rw [encodeRuneZ_four (by omega) (by omega), w64 (by omega) (by omega), w64 (by omega) (by omega), w64 (by omega) (by omega), w64 (by omega) (by omega), b2, b3, show (128 + ((c / 4096 % 64 : Nat) : Int)) % 256 = 128 + (c : Int) / 4096 % 64 by omega, show (240 + ((c / 262144 : Nat) : Int)) % 256 = 240 + (c : Int) / 262144 by omega]; rfl
def smallN (c : Nat) : Nat := (smallI (c : Int)).toNat
theorem fold_go (s : ByteArray) : ∀ (cs : List Nat) (f pos : Nat) (acc : List Int), (∀ c ∈ cs, okC c) → pos ≤ s.size → s.data.toList.drop pos = encL cs → s.size - pos < f → name_Fold.go s f pos acc = some (acc ++ ints (cs.map smallN))
  | cs, 0, pos, acc, ho, hp, hd, hf => by omega
  | [], f + 1, pos, acc, ho, hp, hd, hf => by
    have hl := congrArg List.length hd
    rw [List.length_drop, ← size_len] at hl
    have e : (encL []).length = 0 := rfl
    rw [name_Fold.go, if_neg (by omega)]
    show some acc = some (acc ++ [])
    rw [List.append_nil]
  | c :: cs, f + 1, pos, acc, ho, hp, hd, hf => by
    have hl := congrArg List.length hd
    have hp1 := enc_pos c
    rw [List.length_drop, ← size_len, encL, List.length_append] at hl
    have hlt : pos < s.size := by omega
    have hdec : dec (s.data.toList.drop pos) = (c, (encodeRune (c : Int)).length) := by rw [hd, encL]; exact dec_encode c (ho c (List.mem_cons_self ..)) _
    have e : Utf8.decode s pos = (c, (encodeRune (c : Int)).length) := by
      rw [decode_dec s pos hlt (by rw [hdec]; show (encodeRune (c : Int)).length ≠ 0; omega), hdec]
    have hc := ho c (List.mem_cons_self ..)
    have ih := fun b => fold_go s cs f (pos + (encodeRune (c : Int)).length) b (fun x hx => ho x (List.mem_cons_of_mem _ hx)) (by omega) (by rw [← List.drop_drop, hd, encL, List.drop_left]) (by omega)
    rw [name_Fold.go, if_pos hlt, e]
    dsimp only
    rw [small_q (c : Int) (by omega) (by unfold okC at hc; omega), Option.bind_some, ih, (small_ok c hc).2, List.append_assoc]
    rfl
theorem bytes_e4 (c : Nat) (h : okC c) : ∃ E : ByteArray, R02_Bytes.f (c : Int) = some E ∧ E.size ≤ 4 ∧ E = ⟨(encodeRune (c : Int)).toArray⟩ := by
  refine ⟨_, bytesR_q c h, ?_, rfl⟩
  rw [size_len]
  have h4 : (encodeRune (c : Int)).length ≤ 4 := by unfold encodeRune; rw [List.length_map]; exact (encodeRuneZ_length (c : Int)).2
  generalize encodeRune (c : Int) = l at h4
  exact h4
theorem rdi2 (p : List Nat) (i : Nat) (h : i < p.length) : rd (ints p) (i : Int) = ((p[i] : Nat) : Int) := by
  unfold rd ints
  rw [Int.toNat_natCast, List.getD_eq_getElem?_getD, List.getElem?_map, List.getElem?_eq_getElem h]; rfl
theorem w1n2 (i : Nat) (h : i < 200000) : wrap64 ((i : Int) + 1) = ((i + 1 : Nat) : Int) := by rw [w64 (by omega) (by omega)]; omega
theorem foldr_l0 (cs : List Nat) (hl : cs.length < 100000) (ho : ∀ c ∈ cs, okC c) (k : Nat) : ∀ (m i : Nat) (t : ByteArray), i + m = cs.length → t.size ≤ 4 * i →
    R02_Fold.l0 (k + m + 1) (ints cs) t (i : Int) = some (t ++ ⟨(encL ((cs.drop i).map smallN)).toArray⟩)
  | 0, i, t, hi, ht => by
    have h1 : ¬ ((i : Int) < ((ints cs).length : Int)) := by unfold ints; rw [List.length_map]; omega
    rw [R02_Fold.l0, if_neg h1, List.drop_of_length_le (by omega)]
    refine congrArg some (ByteArray.ext (Array.ext' ?_))
    rw [ByteArray.data_append, Array.toList_append]
    exact (List.append_nil _).symm
  | m + 1, i, t, hi, ht => by
    have hlt : i < cs.length := by omega
    have h1 : (i : Int) < ((ints cs).length : Int) := by unfold ints; rw [List.length_map]; omega
    have hc := ho cs[i] (List.getElem_mem _)
    obtain ⟨s1, s2⟩ := small_ok cs[i] hc
    obtain ⟨E, hE, hE4, hEE⟩ := bytes_e4 (smallN cs[i]) s1
    have hcat : t.size + E.size ≤ 9223372036854775807 := by clear hE hEE s2; omega
    have hsz : (t ++ E).size ≤ 4 * (i + 1) := by clear hE hEE s2; rw [ByteArray.size_append]; omega
    have h0 : (0 : Int) ≤ ((cs[i] : Nat) : Int) := Int.natCast_nonneg _
    have hmx : ((cs[i] : Nat) : Int) ≤ 1114111 := by clear hE hEE s1 s2 hE4; unfold okC at hc; omega
    have ih := foldr_l0 cs hl ho k m (i + 1) (t ++ E) (by clear hE hEE s2; omega) hsz
    rw [show k + (m + 1) + 1 = (k + m + 1) + 1 from rfl, R02_Fold.l0, if_pos h1, if_pos (Int.natCast_nonneg i), rdi2 cs i hlt, small_r _ h0 hmx, Option.bind_some, s2]
    show (R02_Bytes.f ((smallN cs[i] : Nat) : Int)).bind _ = _
    rw [hE, Option.bind_some, if_pos hcat, w1n2 i (by clear hE hEE s2; omega), ih, List.drop_eq_getElem_cons hlt]
    refine congrArg some (ByteArray.ext (Array.ext' ?_))
    rw [ByteArray.data_append, Array.toList_append, ByteArray.data_append, Array.toList_append, ByteArray.data_append, Array.toList_append, hEE, List.append_assoc]
    rfl
theorem enc_rune2 (r : Nat) (hv : r < 55296 ∨ (57343 < r ∧ r ≤ 1114111)) : (Utf8.encode (r : Int)).data.toList = encodeRune (r : Int) := by
  have hvalid : Utf8.valid (r : Int) = true := by
    unfold Utf8.valid
    simp only [Bool.or_eq_true, Bool.and_eq_true, decide_eq_true_eq]
    omega
  unfold Utf8.encode encodeRune
  simp only [hvalid, if_true, Int.toNat_natCast]
  by_cases c1 : r < 128
  · rw [if_pos c1, encodeRuneZ_one (by omega) (by omega)]; simp
  by_cases c2 : r < 2048
  · rw [if_neg c1, if_pos c2, encodeRuneZ_two (by omega) (by omega)]
    simp only [List.map_cons, List.map_nil]
    rw [show (192 + (r : Int) / 64).toNat = 192 + r / 64 by omega, show (128 + (r : Int) % 64).toNat = 128 + r % 64 by omega]
  by_cases c3 : r < 65536
  · rw [if_neg c1, if_neg c2, if_pos c3, encodeRuneZ_three (by omega)]
    simp only [List.map_cons, List.map_nil]
    rw [show (224 + (r : Int) / 4096).toNat = 224 + r / 4096 by omega, show (128 + (r : Int) / 64 % 64).toNat = 128 + r / 64 % 64 by omega, show (128 + (r : Int) % 64).toNat = 128 + r % 64 by omega]
  · rw [if_neg c1, if_neg c2, if_neg c3, encodeRuneZ_four (by omega) (by omega)]
    simp only [List.map_cons, List.map_nil]
    rw [show (240 + (r : Int) / 262144).toNat = 240 + r / 262144 by omega, show (128 + (r : Int) / 4096 % 64).toNat = 128 + r / 4096 % 64 by omega, show (128 + (r : Int) / 64 % 64).toNat = 128 + r / 64 % 64 by omega, show (128 + (r : Int) % 64).toNat = 128 + r % 64 by omega]
theorem foldl_enc : ∀ (cs : List Nat) (r : ByteArray), (∀ c ∈ cs, okC c) → ((ints cs).foldl (fun r n => r ++ Utf8.encode n) r).data.toList = r.data.toList ++ encL cs
  | [], r, _ => (List.append_nil _).symm
  | c :: cs, r, ho => by
    have ih := foldl_enc cs (r ++ Utf8.encode (c : Int)) (fun x hx => ho x (List.mem_cons_of_mem _ hx))
    refine ih.trans ?_
    rw [ByteArray.data_append, Array.toList_append, enc_rune2 c (ho c List.mem_cons_self), encL, List.append_assoc]
theorem runesBytes_enc (cs : List Nat) (ho : ∀ c ∈ cs, okC c) : runesBytes (ints cs) = ⟨(encL cs).toArray⟩ := by
  refine ByteArray.ext (Array.ext' ?_)
  exact foldl_enc cs ByteArray.empty ho
def foldB (s : ByteArray) : ByteArray := if validD s.data.toList = true then ⟨(encL ((runesOf s.data.toList).map smallN)).toArray⟩ else s
theorem fold_q (s : ByteArray) (hs : s.size < 1000000) : name_Fold.f s = some (foldB s) := by
  unfold name_Fold.f foldB
  rw [if_pos (show s.size ≤ 1099511627776 by omega)]
  by_cases hv : validD s.data.toList = true
  · obtain ⟨e1, o1⟩ := valid_runesL _ hv
    have hm : ∀ c ∈ (runesOf s.data.toList).map smallN, okC c := by
      intro c hc
      obtain ⟨x, hx, rfl⟩ := List.mem_map.1 hc
      exact (small_ok x (o1 x hx)).1
    rw [if_pos hv, if_pos hv, fold_go s _ (s.size + 1) 0 [] o1 (Nat.zero_le _) e1.symm (by omega), Option.bind_some, List.nil_append, runesBytes_enc _ hm]
  · rw [if_neg hv, if_neg hv]
theorem encL_len2 : ∀ cs : List Nat, cs.length ≤ (encL cs).length
  | [] => Nat.le_refl _
  | c :: cs => by
    have := encL_len2 cs; have := enc_pos c
    rw [encL, List.length_append, List.length_cons]; omega
theorem fold_r (s : ByteArray) (hs : s.size < 90000) (k : Nat) (hk : 2 * s.size + 20 ≤ k) : R02_Fold.f k s = some (foldB s) := by
  unfold R02_Fold.f foldB
  rw [valid_ev s (by omega) _ (by omega), Option.bind_some]
  by_cases hv : validD s.data.toList = true
  · obtain ⟨e1, o1⟩ := valid_runesL _ hv
    have hlen : (runesOf s.data.toList).length ≤ s.size := by
      have := encL_len2 (runesOf s.data.toList)
      rw [e1, ← size_len] at this; exact this
    have h := foldr_l0 (runesOf s.data.toList) (by omega) o1 (k - (runesOf s.data.toList).length - 1) (runesOf s.data.toList).length 0 ⟨#[]⟩ (by omega) (Nat.le_refl _)
    rw [show k - (runesOf s.data.toList).length - 1 + (runesOf s.data.toList).length + 1 = k by omega, List.drop_zero] at h
    rw [if_pos hv, if_pos hv, runes_ev s (by omega) _ (by omega), Option.bind_some]
    refine h.trans (congrArg some (ByteArray.ext (Array.ext' ?_)))
    rw [ByteArray.data_append, Array.toList_append]; rfl
  · rw [if_neg hv, if_neg hv]
theorem cmp_rune (a b : Int) : cmp_Compare_rune.f a b = some (if a < b then -1 else if b < a then 1 else 0) := by
  unfold cmp_Compare_rune.f cmp_isNaN_rune.f
  simp only [bne_self_eq_false, Option.bind_some, Bool.false_eq_true, if_false, ne_eq, not_true_eq_false, decide_false, gt_iff_lt]
  split
  · rfl
  · split <;> rfl
theorem rdd (x : List Int) (i : Nat) (h : i < x.length) : rd x (i : Int) = x[i] := by
  unfold rd
  rw [Int.toNat_natCast, List.getD_eq_getElem?_getD, List.getElem?_eq_getElem h]; rfl
theorem slcmp_l0 (x y : List Int) (hl : x.length < 100000) (k : Nat) : ∀ (m i : Nat), i + m = x.length → slices_Compare_rune_rune.l0 (k + m + 1) x y x (x.length : Int) (i : Int) = some (cmpI (x.drop i) (y.drop i))
  | 0, i, hi => by
    have h1 : ¬ ((i : Int) < (x.length : Int)) := by omega
    rw [slices_Compare_rune_rune.l0, if_neg h1, List.drop_of_length_le (show x.length ≤ i by omega)]
    by_cases h : x.length < y.length
    · rw [if_pos (show (x.length : Int) < (y.length : Int) by omega), List.drop_eq_getElem_cons (show i < y.length by omega)]; rfl
    · rw [if_neg (show ¬ (x.length : Int) < (y.length : Int) by omega), List.drop_of_length_le (show y.length ≤ i by omega)]; rfl
  | m + 1, i, hi => by
    have hx : i < x.length := by omega
    have h1 : (i : Int) < (x.length : Int) := by omega
    have w1 : wrap64 ((i : Int) + 1) = ((i + 1 : Nat) : Int) := w1n2 i (by omega)
    have ih := slcmp_l0 x y hl k m (i + 1) (by omega)
    rw [show k + (m + 1) + 1 = (k + m + 1) + 1 from rfl, slices_Compare_rune_rune.l0, if_pos h1, if_pos (Int.natCast_nonneg i), if_pos h1, List.drop_eq_getElem_cons hx]
    by_cases hy : i < y.length
    · have h2 : (i : Int) < (y.length : Int) := by omega
      have h3 : ¬ ((i : Int) ≥ (y.length : Int)) := by omega
      rw [if_neg h3, if_pos h2, rdd x i hx, rdd y i hy, cmp_rune, Option.bind_some, w1, ih, List.drop_eq_getElem_cons hy, cmpI]
      by_cases c1 : x[i] < y[i]
      · rw [if_pos c1, if_pos c1, if_neg (by decide)]
      rw [if_neg c1, if_neg c1]
      by_cases c2 : y[i] < x[i]
      · rw [if_pos c2, if_pos c2, if_neg (by decide)]
      · rw [if_neg c2, if_neg c2, if_pos rfl]
    · have h3 : (i : Int) ≥ (y.length : Int) := by omega
      rw [if_pos h3, List.drop_of_length_le (show y.length ≤ i by omega)]; rfl
theorem slcmp_q (x y : List Int) (hl : x.length < 100000) (k : Nat) (hk : x.length + 1 ≤ k) : slices_Compare_rune_rune.f k x y = some (cmpI x y) := by
  have h := slcmp_l0 x y hl (k - x.length - 1) x.length 0 (by omega)
  rw [show k - x.length - 1 + x.length + 1 = k by omega] at h
  unfold slices_Compare_rune_rune.f
  exact h
theorem runesI_go (s : ByteArray) : ∀ (cs : List Nat) (b pos : Nat), (∀ c ∈ cs, okC c) → pos ≤ s.size → s.data.toList.drop pos = encL cs → s.size - pos ≤ b → runesI s b pos = ints cs
  | [], 0, pos, ho, hp, hd, hf => rfl
  | c :: cs, 0, pos, ho, hp, hd, hf => by
    have hl := congrArg List.length hd
    have hp1 := enc_pos c
    rw [List.length_drop, ← size_len, encL, List.length_append] at hl
    omega
  | [], b + 1, pos, ho, hp, hd, hf => by
    have hl := congrArg List.length hd
    rw [List.length_drop, ← size_len] at hl
    have e : (encL []).length = 0 := rfl
    rw [runesI, if_neg (by omega)]; rfl
  | c :: cs, b + 1, pos, ho, hp, hd, hf => by
    have hl := congrArg List.length hd
    have hp1 := enc_pos c
    rw [List.length_drop, ← size_len, encL, List.length_append] at hl
    have hlt : pos < s.size := by omega
    have hdec : dec (s.data.toList.drop pos) = (c, (encodeRune (c : Int)).length) := by rw [hd, encL]; exact dec_encode c (ho c (List.mem_cons_self ..)) _
    have e : Utf8.decode s pos = (c, (encodeRune (c : Int)).length) := by
      rw [decode_dec s pos hlt (by rw [hdec]; show (encodeRune (c : Int)).length ≠ 0; omega), hdec]
    have ih := runesI_go s cs b (pos + (encodeRune (c : Int)).length) (fun x hx => ho x (List.mem_cons_of_mem _ hx)) (by omega) (by rw [← List.drop_drop, hd, encL, List.drop_left]) (by omega)
    rw [runesI, if_pos hlt, e]
    dsimp only
    rw [ih]; rfl
theorem fold_ok (s : ByteArray) (hv : validD s.data.toList = true) : ∀ c ∈ (runesOf s.data.toList).map smallN, okC c := by
  obtain ⟨e1, o1⟩ := valid_runesL _ hv
  intro c hc
  obtain ⟨x, hx, rfl⟩ := List.mem_map.1 hc
  exact (small_ok x (o1 x hx)).1
theorem fold_list (s : ByteArray) (hv : validD s.data.toList = true) : (foldB s).data.toList = encL ((runesOf s.data.toList).map smallN) := by
  unfold foldB
  rw [if_pos hv]
theorem fold_valid (s : ByteArray) (hv : validD s.data.toList = true) : validD (foldB s).data.toList = true ∧ runesOf (foldB s).data.toList = (runesOf s.data.toList).map smallN := by
  have h := runes_enc _ _ (fold_ok s hv) (Nat.le_refl _)
  rw [fold_list s hv, validD_validF]
  exact ⟨h.2, h.1⟩
theorem encL_four : ∀ cs : List Nat, (encL cs).length ≤ 4 * cs.length
  | [] => Nat.le_refl _
  | c :: cs => by
    have h1 := encL_four cs
    have h4 : (encodeRune (c : Int)).length ≤ 4 := by unfold encodeRune; rw [List.length_map]; exact (encodeRuneZ_length (c : Int)).2
    rw [encL, List.length_append, List.length_cons]; omega
theorem fold_size (s : ByteArray) (hv : validD s.data.toList = true) : (foldB s).size ≤ 4 * s.size ∧ (runesOf s.data.toList).length ≤ s.size := by
  obtain ⟨e1, o1⟩ := valid_runesL _ hv
  have hlen : (runesOf s.data.toList).length ≤ s.size := by
    have := encL_len2 (runesOf s.data.toList)
    rw [e1, ← size_len] at this; exact this
  have h := encL_four ((runesOf s.data.toList).map smallN)
  rw [← fold_list s hv, ← size_len, List.length_map] at h
  exact ⟨by omega, hlen⟩
def cmpB (a b : ByteArray) : Int := cmpI (ints ((runesOf a.data.toList).map smallN)) (ints ((runesOf b.data.toList).map smallN))
theorem runesI_fold (s : ByteArray) (hv : validD s.data.toList = true) : runesI (foldB s) (foldB s).size 0 = ints ((runesOf s.data.toList).map smallN) :=
  runesI_go (foldB s) _ _ 0 (fold_ok s hv) (Nat.zero_le _) (fold_list s hv) (by omega)
theorem compare_q (a b : ByteArray) (ha : a.size < 20000) (hb : b.size < 20000) (va : validD a.data.toList = true) (vb : validD b.data.toList = true) (k : Nat) (hk : a.size + 1 ≤ k) : name_Compare.f k a b = some (cmpB a b) := by
  obtain ⟨a1, a2⟩ := fold_size a va
  obtain ⟨b1, b2⟩ := fold_size b vb
  unfold name_Compare.f cmpB
  rw [fold_q a (by omega), Option.bind_some, fold_q b (by omega), Option.bind_some, if_pos (show (foldB a).size ≤ 1099511627776 by omega), if_pos (show (foldB b).size ≤ 1099511627776 by omega), if_pos (fold_valid a va).1, if_pos (fold_valid b vb).1, runesI_fold a va, runesI_fold b vb]
  have hl : (ints ((runesOf a.data.toList).map smallN)).length = (runesOf a.data.toList).length := by unfold ints; rw [List.length_map, List.length_map]
  exact slcmp_q _ _ (by omega) k (by omega)
theorem compare_r (a b : ByteArray) (ha : a.size < 20000) (hb : b.size < 20000) (va : validD a.data.toList = true) (vb : validD b.data.toList = true) (k : Nat) (hka : 4 * a.size + 20 ≤ k) (hkb : 4 * b.size + 20 ≤ k) : R02_Compare.f k a b = some (cmpB a b) := by
  obtain ⟨a1, a2⟩ := fold_size a va
  obtain ⟨b1, b2⟩ := fold_size b vb
  unfold R02_Compare.f cmpB
  rw [fold_r a (by omega) k (by omega), Option.bind_some, fold_r b (by omega) k (by omega), Option.bind_some, valid_ev _ (by omega) k (by omega), Option.bind_some, valid_ev _ (by omega) k (by omega), Option.bind_some, if_pos (fold_valid a va).1, if_pos (fold_valid b vb).1, runes_ev _ (by omega) k (by omega), Option.bind_some, runes_ev _ (by omega) k (by omega), Option.bind_some, (fold_valid a va).2, (fold_valid b vb).2]
def letB (c : Int) : Bool := (65 ≤ c && c ≤ 90) || (97 ≤ c && c ≤ 122) || (192 ≤ c && c ≤ 591 && c != 215 && c != 247) || (913 ≤ c && c ≤ 937 && c != 930) || (945 ≤ c && c ≤ 969) || (1040 ≤ c && c ≤ 1103) || (19968 ≤ c && c ≤ 40959)
theorem letter_q (c : Int) (k : Nat) : name_Letter.f (k + 1) c = some (letB c) := by
  by_cases e1 : c = 215
  · subst e1; rfl
  by_cases e2 : c = 247
  · subst e2; rfl
  by_cases e3 : c = 930
  · subst e3; rfl
  have n1 : (c = 215) = False := eq_false e1
  have m1 : (c != 215) = true := bne_iff_ne.2 e1
  have m2 : (c != 247) = true := bne_iff_ne.2 e2
  have m3 : (c != 930) = true := bne_iff_ne.2 e3
  have cs : c < 65 ∨ (65 ≤ c ∧ c < 91) ∨ (91 ≤ c ∧ c < 97) ∨ (97 ≤ c ∧ c < 123) ∨ (123 ≤ c ∧ c < 192) ∨ (192 ≤ c ∧ c < 592) ∨ (592 ≤ c ∧ c < 913) ∨ (913 ≤ c ∧ c < 938) ∨ (938 ≤ c ∧ c < 945) ∨ (945 ≤ c ∧ c < 970) ∨ (970 ≤ c ∧ c < 1040) ∨ (1040 ≤ c ∧ c < 1104) ∨ (1104 ≤ c ∧ c < 19968) ∨ (19968 ≤ c ∧ c < 40960) ∨ 40960 ≤ c := by omega
  rcases cs with h | h | h | h | h | h | h | h | h | h | h | h | h | h | h
  all_goals (
    (first | have l65 : (65 ≤ c) = True := eq_true (by omega) | have l65 : (65 ≤ c) = False := eq_false (by omega)); (first | have u90 : (c ≤ 90) = True := eq_true (by omega) | have u90 : (c ≤ 90) = False := eq_false (by omega));
    (first | have l97 : (97 ≤ c) = True := eq_true (by omega) | have l97 : (97 ≤ c) = False := eq_false (by omega)); (first | have u122 : (c ≤ 122) = True := eq_true (by omega) | have u122 : (c ≤ 122) = False := eq_false (by omega));
    (first | have l192 : (192 ≤ c) = True := eq_true (by omega) | have l192 : (192 ≤ c) = False := eq_false (by omega)); (first | have u591 : (c ≤ 591) = True := eq_true (by omega) | have u591 : (c ≤ 591) = False := eq_false (by omega));
    (first | have l913 : (913 ≤ c) = True := eq_true (by omega) | have l913 : (913 ≤ c) = False := eq_false (by omega)); (first | have u937 : (c ≤ 937) = True := eq_true (by omega) | have u937 : (c ≤ 937) = False := eq_false (by omega));
    (first | have l945 : (945 ≤ c) = True := eq_true (by omega) | have l945 : (945 ≤ c) = False := eq_false (by omega)); (first | have u969 : (c ≤ 969) = True := eq_true (by omega) | have u969 : (c ≤ 969) = False := eq_false (by omega));
    (first | have l1040 : (1040 ≤ c) = True := eq_true (by omega) | have l1040 : (1040 ≤ c) = False := eq_false (by omega)); (first | have u1103 : (c ≤ 1103) = True := eq_true (by omega) | have u1103 : (c ≤ 1103) = False := eq_false (by omega));
    (first | have l19968 : (19968 ≤ c) = True := eq_true (by omega) | have l19968 : (19968 ≤ c) = False := eq_false (by omega)); (first | have u40959 : (c ≤ 40959) = True := eq_true (by omega) | have u40959 : (c ≤ 40959) = False := eq_false (by omega))
    )
  all_goals simp only [name_Letter.f, name_Letter.j0, name_between.f, letB, ge_iff_le, n1, m1, m2, m3, l65, u90, l97, u122, l192, u591, l913, u937, l945, u969, l1040, u1103, l19968, u40959, Option.bind_some, if_true, if_false, decide_true, decide_false, Bool.and_true, Bool.and_false, Bool.true_and, Bool.false_and, Bool.or_true, Bool.or_false, Bool.true_or, Bool.false_or, Bool.false_eq_true]
theorem letter_r (c : Int) (k : Nat) : R02_Letter.f (k + 2) c = some (letB c) := by
  by_cases e1 : c = 215
  · subst e1; rfl
  by_cases e2 : c = 247
  · subst e2; rfl
  by_cases e3 : c = 930
  · subst e3; rfl
  have n1 : (c = 215) = False := eq_false e1
  have m1 : (c != 215) = true := bne_iff_ne.2 e1
  have m2 : (c != 247) = true := bne_iff_ne.2 e2
  have m3 : (c != 930) = true := bne_iff_ne.2 e3
  have cs : c < 65 ∨ (65 ≤ c ∧ c < 91) ∨ (91 ≤ c ∧ c < 97) ∨ (97 ≤ c ∧ c < 123) ∨ (123 ≤ c ∧ c < 192) ∨ (192 ≤ c ∧ c < 592) ∨ (592 ≤ c ∧ c < 913) ∨ (913 ≤ c ∧ c < 938) ∨ (938 ≤ c ∧ c < 945) ∨ (945 ≤ c ∧ c < 970) ∨ (970 ≤ c ∧ c < 1040) ∨ (1040 ≤ c ∧ c < 1104) ∨ (1104 ≤ c ∧ c < 19968) ∨ (19968 ≤ c ∧ c < 40960) ∨ 40960 ≤ c := by omega
  rcases cs with h | h | h | h | h | h | h | h | h | h | h | h | h | h | h
  all_goals (
    (first | have l65 : (65 ≤ c) = True := eq_true (by omega) | have l65 : (65 ≤ c) = False := eq_false (by omega)); (first | have u90 : (c ≤ 90) = True := eq_true (by omega) | have u90 : (c ≤ 90) = False := eq_false (by omega));
    (first | have l97 : (97 ≤ c) = True := eq_true (by omega) | have l97 : (97 ≤ c) = False := eq_false (by omega)); (first | have u122 : (c ≤ 122) = True := eq_true (by omega) | have u122 : (c ≤ 122) = False := eq_false (by omega));
    (first | have l192 : (192 ≤ c) = True := eq_true (by omega) | have l192 : (192 ≤ c) = False := eq_false (by omega)); (first | have u591 : (c ≤ 591) = True := eq_true (by omega) | have u591 : (c ≤ 591) = False := eq_false (by omega));
    (first | have l913 : (913 ≤ c) = True := eq_true (by omega) | have l913 : (913 ≤ c) = False := eq_false (by omega)); (first | have u937 : (c ≤ 937) = True := eq_true (by omega) | have u937 : (c ≤ 937) = False := eq_false (by omega));
    (first | have l945 : (945 ≤ c) = True := eq_true (by omega) | have l945 : (945 ≤ c) = False := eq_false (by omega)); (first | have u969 : (c ≤ 969) = True := eq_true (by omega) | have u969 : (c ≤ 969) = False := eq_false (by omega));
    (first | have l1040 : (1040 ≤ c) = True := eq_true (by omega) | have l1040 : (1040 ≤ c) = False := eq_false (by omega)); (first | have u1103 : (c ≤ 1103) = True := eq_true (by omega) | have u1103 : (c ≤ 1103) = False := eq_false (by omega));
    (first | have l19968 : (19968 ≤ c) = True := eq_true (by omega) | have l19968 : (19968 ≤ c) = False := eq_false (by omega)); (first | have u40959 : (c ≤ 40959) = True := eq_true (by omega) | have u40959 : (c ≤ 40959) = False := eq_false (by omega))
    )
  all_goals simp only [R02_Letter.f, R02_Letter.j0, R02_Letter.j1, letB, ge_iff_le, n1, m1, m2, m3, l65, u90, l97, u122, l192, u591, l913, u937, l945, u969, l1040, u1103, l19968, u40959, Option.bind_some, if_true, if_false, decide_true, decide_false, Bool.and_true, Bool.and_false, Bool.true_and, Bool.false_and, Bool.or_true, Bool.or_false, Bool.true_or, Bool.false_or, Bool.false_eq_true]
def formG : Bool → List Nat → Bool
  | first, [] => !first
  | first, c :: cs => if c = 46 then (if first = true then false else formG true cs)
    else if letB (c : Int) = true ∨ c = 95 then formG false cs
    else if first = false ∧ ((48 ≤ c ∧ c ≤ 57) ∨ c = 45) then formG false cs else false
def partG : Bool → List Nat → Bool
  | first, [] => !first
  | first, c :: cs => if letB (c : Int) = true ∨ c = 95 then partG false cs
    else if first = false ∧ ((48 ≤ c ∧ c ≤ 57) ∨ c = 45) then partG false cs else false
def cutP : List Nat → List Nat × List (List Nat)
  | [] => ([], [])
  | c :: cs => if c = 46 then ([], (cutP cs).1 :: (cutP cs).2) else (c :: (cutP cs).1, (cutP cs).2)
theorem form_cut : ∀ (first : Bool) (cs : List Nat), formG first cs = (partG first (cutP cs).1 && (cutP cs).2.all (partG true))
  | first, [] => by simp [formG, partG, cutP]
  | first, c :: cs => by
    rw [formG, cutP]
    by_cases h : c = 46
    · rw [if_pos h, if_pos h, partG]
      cases first with
      | true => simp
      | false =>
        rw [if_neg (by decide), form_cut true cs]
        simp
    · rw [if_neg h, if_neg h, partG]
      by_cases h1 : letB (c : Int) = true ∨ c = 95
      · rw [if_pos h1, if_pos h1, form_cut false cs]
      · rw [if_neg h1, if_neg h1]
        by_cases h2 : first = false ∧ ((48 ≤ c ∧ c ≤ 57) ∨ c = 45)
        · rw [if_pos h2, if_pos h2, form_cut false cs]
        · rw [if_neg h2, if_neg h2]; rfl
theorem cut_len : ∀ cs : List Nat, (cutP cs).2.length = cs.count 46
  | [] => rfl
  | c :: cs => by
    rw [cutP]
    by_cases h : c = 46
    · rw [if_pos h, h, List.count_cons_self, List.length_cons, cut_len cs]
    · rw [if_neg h, List.count_cons_of_ne (by simpa using h), cut_len cs]
theorem nameDigit_q (c : Int) : name_digit.f c = some (decide (48 ≤ c) && decide (c ≤ 57)) := by
  unfold name_digit.f name_between.f
  by_cases h : c ≥ 48
  · rw [if_pos h, Option.bind_some, decide_eq_true (show 48 ≤ c by omega)]; rfl
  · rw [if_neg h, Option.bind_some, decide_eq_false (show ¬ 48 ≤ c by omega)]; rfl
theorem form_st (k : Nat) (first : Bool) (c : Nat) : ∃ t, name_formed.st (k + 1) first (c : Int) = some t ∧
    ((t = 0 ∧ ∀ cs, formG first (c :: cs) = false) ∨ (t = 1 ∧ ∀ cs, formG first (c :: cs) = formG false cs) ∨ (t = 2 ∧ ∀ cs, formG first (c :: cs) = formG true cs)) := by
  unfold name_formed.st
  by_cases h46 : c = 46
  · subst h46
    rw [if_pos (by decide)]
    cases first with
    | true => exact ⟨0, rfl, .inl ⟨rfl, fun cs => by rw [formG]; rfl⟩⟩
    | false => exact ⟨2, rfl, .inr (.inr ⟨rfl, fun cs => by rw [formG]; rfl⟩)⟩
  rw [if_neg (by omega), letter_q (c : Int) k, Option.bind_some]
  by_cases hl : letB (c : Int) = true
  · rw [if_pos hl]
    exact ⟨1, rfl, .inr (.inl ⟨rfl, fun cs => by rw [formG, if_neg h46, if_pos (.inl hl)]⟩)⟩
  rw [if_neg hl]
  by_cases h95 : c = 95
  · rw [if_pos (by omega)]
    exact ⟨1, rfl, .inr (.inl ⟨rfl, fun cs => by rw [formG, if_neg h46, if_pos (.inr h95)]⟩)⟩
  have hno : ¬ (letB (c : Int) = true ∨ c = 95) := fun h => h.elim hl h95
  rw [if_neg (by omega)]
  cases first with
  | true =>
    exact ⟨0, rfl, .inl ⟨rfl, fun cs => by rw [formG, if_neg h46, if_neg hno, if_neg (fun h => by cases h.1)]⟩⟩
  | false =>
    rw [if_neg (by decide), nameDigit_q, Option.bind_some]
    by_cases hd : 48 ≤ c ∧ c ≤ 57
    · rw [if_pos (by rw [decide_eq_true (by omega), decide_eq_true (by omega)]; rfl)]
      exact ⟨1, rfl, .inr (.inl ⟨rfl, fun cs => by rw [formG, if_neg h46, if_neg hno, if_pos ⟨rfl, .inl hd⟩]⟩)⟩
    have hnd : ¬ ((decide (48 ≤ (c : Int)) && decide ((c : Int) ≤ 57)) = true) := by
      rw [Bool.and_eq_true, decide_eq_true_eq, decide_eq_true_eq]; omega
    rw [if_neg hnd]
    by_cases h45 : c = 45
    · rw [if_pos (by omega)]
      exact ⟨1, rfl, .inr (.inl ⟨rfl, fun cs => by rw [formG, if_neg h46, if_neg hno, if_pos ⟨rfl, .inr h45⟩]⟩)⟩
    · rw [if_neg (by omega)]
      exact ⟨0, rfl, .inl ⟨rfl, fun cs => by rw [formG, if_neg h46, if_neg hno, if_neg (fun h => h.2.elim hd h45)]⟩⟩
theorem form_go (s : ByteArray) (k : Nat) : ∀ (cs : List Nat) (f pos : Nat) (first : Bool), (∀ c ∈ cs, okC c) → pos ≤ s.size → s.data.toList.drop pos = encL cs → s.size - pos < f → name_formed.go (k + 1) s f pos first = some (formG first cs)
  | cs, 0, pos, first, ho, hp, hd, hf => by omega
  | [], f + 1, pos, first, ho, hp, hd, hf => by
    have hl := congrArg List.length hd
    rw [List.length_drop, ← size_len] at hl
    have e : (encL []).length = 0 := rfl
    rw [name_formed.go, if_neg (by omega)]; rfl
  | c :: cs, f + 1, pos, first, ho, hp, hd, hf => by
    have hl := congrArg List.length hd
    have hp1 := enc_pos c
    rw [List.length_drop, ← size_len, encL, List.length_append] at hl
    have hlt : pos < s.size := by omega
    have hdec : dec (s.data.toList.drop pos) = (c, (encodeRune (c : Int)).length) := by rw [hd, encL]; exact dec_encode c (ho c (List.mem_cons_self ..)) _
    have e : Utf8.decode s pos = (c, (encodeRune (c : Int)).length) := by
      rw [decode_dec s pos hlt (by rw [hdec]; show (encodeRune (c : Int)).length ≠ 0; omega), hdec]
    obtain ⟨t, t1, t2⟩ := form_st k first c
    have ih := fun b => form_go s k cs f (pos + (encodeRune (c : Int)).length) b (fun x hx => ho x (List.mem_cons_of_mem _ hx)) (by omega) (by rw [← List.drop_drop, hd, encL, List.drop_left]) (by omega)
    rw [name_formed.go, if_pos hlt, e]
    dsimp only
    rw [t1, Option.bind_some]
    rcases t2 with ⟨rfl, h⟩ | ⟨rfl, h⟩ | ⟨rfl, h⟩
    · rw [if_pos rfl, h]
    · rw [if_neg (by decide), h]; exact ih false
    · rw [if_neg (by decide), h]; exact ih true
def formedB (s : ByteArray) : Bool := decide (s.size ≠ 0) && (validD s.data.toList && formG true (runesOf s.data.toList))
theorem formed_q (s : ByteArray) (hs : s.size < 1000000) (k : Nat) : name_formed.f (k + 1) s = some (formedB s) := by
  unfold name_formed.f formedB
  rw [if_pos (by omega)]
  by_cases hz : s.size = 0
  · rw [if_pos ((toList_nil s).2 hz), decide_eq_false (by omega)]; rfl
  rw [if_neg (fun h => hz ((toList_nil s).1 h)), decide_eq_true hz]
  by_cases hv : validD s.data.toList = true
  · obtain ⟨e1, o1⟩ := valid_runesL _ hv
    rw [if_pos hv, hv, form_go s k _ (s.size + 1) 0 true o1 (Nat.zero_le _) e1.symm (by omega)]; rfl
  · rw [if_neg hv, Bool.eq_false_iff.2 hv]; rfl
theorem part_l0 (cs : List Nat) (hl : cs.length < 100000) (k : Nat) : ∀ (m i : Nat), i + m = cs.length → R02_part.l0 (k + m + 3) (ints cs) (i : Int) = some (partG (decide (i = 0)) (cs.drop i))
  | 0, i, hi => by
    have hil : (ints cs).length = cs.length := by unfold ints; rw [List.length_map]
    rw [R02_part.l0, if_neg (by omega), List.drop_of_length_le (by omega), partG]
    by_cases h0 : i = 0
    · rw [decide_eq_true h0, decide_eq_false (by omega)]; rfl
    · rw [decide_eq_false h0, decide_eq_true (by omega)]; rfl
  | m + 1, i, hi => by
    have hil : (ints cs).length = cs.length := by unfold ints; rw [List.length_map]
    have hlt : i < cs.length := by omega
    have hr : rd (ints cs) (i : Int) = (cs[i] : Int) := by
      unfold rd ints
      rw [Int.toNat_natCast, List.getD_eq_getElem?_getD, List.getElem?_map, List.getElem?_eq_getElem hlt]; rfl
    have ih := part_l0 cs hl k m (i + 1) (by omega)
    rw [decide_eq_false (show ¬ i + 1 = 0 by omega)] at ih
    have w1 : wrap64 ((i : Int) + 1) = ((i + 1 : Nat) : Int) := by rw [w64 (by omega) (by omega)]; omega
    rw [List.drop_eq_getElem_cons hlt, partG, show k + (m + 1) + 3 = (k + m + 3) + 1 by omega, R02_part.l0, if_pos (by omega), if_pos (by omega), hr, show k + m + 3 = (k + m + 1) + 2 by omega, letter_r, Option.bind_some, w1]
    generalize cs[i] = c
    by_cases hlet : letB (c : Int) = true
    · rw [if_pos hlet, if_pos (.inl hlet)]; exact ih
    rw [if_neg hlet]
    by_cases h95 : c = 95
    · rw [if_pos (show (c : Int) = 95 by omega), if_pos (show letB (c : Int) = true ∨ c = 95 from .inr h95)]; exact ih
    rw [if_neg (show ¬ (c : Int) = 95 by omega), if_neg (show ¬ (letB (c : Int) = true ∨ c = 95) from fun h => h.elim hlet h95)]
    clear hlet
    by_cases h0 : i = 0
    · rw [if_pos (show (i : Int) = 0 by omega), decide_eq_true h0, if_neg (fun h => by cases h.1)]
    rw [if_neg (show ¬ (i : Int) = 0 by omega), decide_eq_false h0]
    by_cases h45 : c = 45
    · rw [if_pos (show (c : Int) = 45 by omega), if_pos ⟨rfl, .inr h45⟩]; exact ih
    rw [if_neg (show ¬ (c : Int) = 45 by omega)]
    by_cases h48 : c < 48
    · rw [if_pos (show (c : Int) < 48 by omega), if_neg (fun h => by have := h.2; omega)]
    rw [if_neg (show ¬ (c : Int) < 48 by omega)]
    by_cases h57 : c > 57
    · rw [if_pos (show (c : Int) > 57 by omega), if_neg (fun h => by have := h.2; omega)]
    · rw [if_neg (show ¬ (c : Int) > 57 by omega), if_pos ⟨rfl, .inl (by omega)⟩]; exact ih
theorem part_q (cs : List Nat) (hl : cs.length < 100000) (k : Nat) (hk : cs.length + 3 ≤ k) : R02_part.f k (ints cs) = some (partG true cs) := by
  have h := part_l0 cs hl (k - cs.length - 3) cs.length 0 (by omega)
  rw [show k - cs.length - 3 + cs.length + 3 = k by omega] at h
  unfold R02_part.f
  exact h
theorem split_l0 (cs : List Nat) (hl : cs.length < 100000) (k : Nat) : ∀ (m i : Nat) (acc : List (List Int)) (cur : List Int), i + m = cs.length → acc.length ≤ i → cur.length ≤ i →
    R02_Split.l0 (k + m + 1) (ints cs) acc cur (i : Int) = some (acc ++ (cur ++ ints (cutP (cs.drop i)).1) :: (cutP (cs.drop i)).2.map ints)
  | 0, i, acc, cur, hi, ha, hc => by
    have hil : (ints cs).length = cs.length := by unfold ints; rw [List.length_map]
    rw [R02_Split.l0, if_neg (by omega), if_pos (by omega), List.drop_of_length_le (by omega), cutP]
    show some (acc ++ [cur]) = some (acc ++ [cur ++ []])
    rw [List.append_nil]
  | m + 1, i, acc, cur, hi, ha, hc => by
    have hil : (ints cs).length = cs.length := by unfold ints; rw [List.length_map]
    have hlt : i < cs.length := by omega
    have hr : rd (ints cs) (i : Int) = (cs[i] : Int) := by
      unfold rd ints
      rw [Int.toNat_natCast, List.getD_eq_getElem?_getD, List.getElem?_map, List.getElem?_eq_getElem hlt]; rfl
    have w1 : wrap64 ((i : Int) + 1) = ((i + 1 : Nat) : Int) := by rw [w64 (by omega) (by omega)]; omega
    rw [List.drop_eq_getElem_cons hlt, cutP, show k + (m + 1) + 1 = (k + m + 1) + 1 by omega, R02_Split.l0, if_pos (by omega), if_pos (by omega), hr, w1]
    generalize cs[i] = c
    by_cases h : c = 46
    · rw [if_pos (by omega), if_pos h, if_pos (by omega), split_l0 cs hl k m (i + 1) (acc ++ [cur]) [] (by omega) (by rw [List.length_append]; show acc.length + 1 ≤ _; omega) (by simp), List.append_assoc]
      show some (acc ++ (cur :: _)) = some (acc ++ ((cur ++ ints []) :: _))
      rw [show ints [] = [] from rfl, List.append_nil]; rfl
    · rw [if_neg (by omega), if_neg h, if_pos (by omega), split_l0 cs hl k m (i + 1) acc (cur ++ [(c : Int)]) (by omega) (by omega) (by rw [List.length_append]; show cur.length + 1 ≤ _; omega), List.append_assoc]
      rfl
theorem split_q (cs : List Nat) (hl : cs.length < 100000) (k : Nat) (hk : cs.length + 1 ≤ k) : R02_Split.f k (ints cs) = some ((ints (cutP cs).1 :: (cutP cs).2.map ints)) := by
  have h := split_l0 cs hl (k - cs.length - 1) cs.length 0 [] [] (by omega) (by simp) (by simp)
  rw [show k - cs.length - 1 + cs.length + 1 = k by omega] at h
  unfold R02_Split.f
  exact h
theorem enc_high (c : Nat) (h : okC c) (hc : 128 ≤ c) : ∀ b ∈ encodeRune (c : Int), 128 ≤ b.toNat := by
  unfold okC at h
  unfold encodeRune
  intro b hb
  obtain ⟨x, hx, rfl⟩ := List.mem_map.1 hb
  have key : ∃ n : Nat, x = (n : Int) ∧ 128 ≤ n ∧ n < 256 := by
    by_cases c2 : c < 2048
    · rw [encodeRuneZ_two (by omega) (by omega)] at hx
      rcases List.mem_cons.1 hx with rfl | hx
      · exact ⟨192 + c / 64, by omega, by omega, by omega⟩
      rcases List.mem_cons.1 hx with rfl | hx
      · exact ⟨128 + c % 64, by omega, by omega, by omega⟩
      · cases hx
    by_cases c3 : c < 65536
    · rw [encodeRuneZ_three (by omega)] at hx
      rcases List.mem_cons.1 hx with rfl | hx
      · exact ⟨224 + c / 4096, by omega, by omega, by omega⟩
      rcases List.mem_cons.1 hx with rfl | hx
      · exact ⟨128 + c / 64 % 64, by omega, by omega, by omega⟩
      rcases List.mem_cons.1 hx with rfl | hx
      · exact ⟨128 + c % 64, by omega, by omega, by omega⟩
      · cases hx
    · rw [encodeRuneZ_four (by omega) (by omega)] at hx
      rcases List.mem_cons.1 hx with rfl | hx
      · exact ⟨240 + c / 262144, by omega, by omega, by omega⟩
      rcases List.mem_cons.1 hx with rfl | hx
      · exact ⟨128 + c / 4096 % 64, by omega, by omega, by omega⟩
      rcases List.mem_cons.1 hx with rfl | hx
      · exact ⟨128 + c / 64 % 64, by omega, by omega, by omega⟩
      rcases List.mem_cons.1 hx with rfl | hx
      · exact ⟨128 + c % 64, by omega, by omega, by omega⟩
      · cases hx
  obtain ⟨n, rfl, h1, h2⟩ := key
  rw [Int.toNat_natCast, u8n n h2]
  exact h1
theorem count_enc (k : Nat) (hk : k < 128) : ∀ cs : List Nat, (∀ c ∈ cs, okC c) → (encL cs).count k.toUInt8 = cs.count k
  | [], _ => rfl
  | c :: cs, ho => by
    rw [encL, List.count_append, count_enc k hk cs (fun x hx => ho x (List.mem_cons_of_mem _ hx)), List.count_cons]
    have e : (encodeRune (c : Int)).count k.toUInt8 = if (c == k) = true then 1 else 0 := by
      by_cases h1 : c < 128
      · unfold encodeRune
        rw [encodeRuneZ_one (by omega) (by omega)]
        show [((c : Int).toNat.toUInt8)].count k.toUInt8 = _
        rw [Int.toNat_natCast, List.count_cons, List.count_nil, Nat.zero_add]
        by_cases hck : c = k
        · rw [hck, if_pos (beq_self_eq_true _), if_pos (beq_self_eq_true _)]
        · rw [if_neg (fun h => hck ?_), if_neg (fun h => hck (eq_of_beq h))]
          have h2 := congrArg UInt8.toNat (eq_of_beq h)
          rw [u8n c (by omega), u8n k (by omega)] at h2
          exact h2
      · rw [if_neg (fun h => by have := eq_of_beq h; omega), List.count_eq_zero]
        intro hm
        have := enc_high c (ho c List.mem_cons_self) (by omega) _ hm
        rw [u8n k (by omega)] at this
        omega
    rw [e]; omega
theorem encL_len : ∀ cs : List Nat, cs.length ≤ (encL cs).length
  | [] => Nat.le_refl _
  | c :: cs => by
    have := encL_len cs; have := enc_pos c
    rw [encL, List.length_append, List.length_cons]; omega
theorem cut_small : ∀ cs : List Nat, (cutP cs).1.length ≤ cs.length ∧ ∀ p ∈ (cutP cs).2, p.length ≤ cs.length
  | [] => ⟨Nat.le_refl _, fun p h => by cases h⟩
  | c :: cs => by
    obtain ⟨i1, i2⟩ := cut_small cs
    rw [cutP, List.length_cons]
    by_cases h : c = 46
    · rw [if_pos h]
      refine ⟨Nat.zero_le _, fun p hp => ?_⟩
      rcases List.mem_cons.1 hp with rfl | hp
      · omega
      · have := i2 p hp; omega
    · rw [if_neg h]
      refine ⟨by show (c :: (cutP cs).1).length ≤ _; rw [List.length_cons]; omega, fun p hp => ?_⟩
      have := i2 p hp; omega
def checkN (s : ByteArray) : Int := if formedB s = true then (if (runesOf s.data.toList).length > 40 then 2 else if (runesOf s.data.toList).count 46 ≥ 5 then 2 else 0) else 3
theorem formed_valid (s : ByteArray) (h : formedB s = true) : s.size ≠ 0 ∧ validD s.data.toList = true ∧ formG true (runesOf s.data.toList) = true := by
  unfold formedB at h
  rw [Bool.and_eq_true, Bool.and_eq_true] at h
  exact ⟨of_decide_eq_true h.1, h.2.1, h.2.2⟩
theorem check_name (s : ByteArray) (hs : s.size < 1000000) (k : Nat) : name_Check.f (k + 1) s = some (checkN s) := by
  unfold name_Check.f checkN
  rw [formed_q s hs, Option.bind_some]
  by_cases hf : formedB s = true
  · obtain ⟨h0, hv, hg⟩ := formed_valid s hf
    rw [if_pos hf, if_pos hf]
    unfold utf8_RuneCountInString.f strings_Count.f
    rw [if_pos (show s.size < 9223372036854775807 by omega), Option.bind_some, count_ev s hv]
    obtain ⟨e1, o1⟩ := valid_runesL _ hv
    have hc : Lib.countByte s.data.toList (([46] : List UInt8).getD 0 0) = (runesOf s.data.toList).count 46 := by
      have := count_enc 46 (by omega) _ o1
      rw [e1] at this
      exact this
    by_cases h1 : (runesOf s.data.toList).length > 40
    · rw [if_pos (show ((runesOf s.data.toList).length : Int) > 40 by omega), if_pos h1]
    rw [if_neg (show ¬ ((runesOf s.data.toList).length : Int) > 40 by omega), if_neg h1]
    show (some ((Lib.countByte s.data.toList (([46] : List UInt8).getD 0 0) : Nat) : Int)).bind _ = _
    rw [hc, Option.bind_some]
    by_cases h2 : (runesOf s.data.toList).count 46 ≥ 5
    · rw [if_pos (show (((runesOf s.data.toList).count 46 : Nat) : Int) ≥ 5 by omega), if_pos h2]
    · rw [if_neg (show ¬ (((runesOf s.data.toList).count 46 : Nat) : Int) ≥ 5 by omega), if_neg h2]
  · rw [if_neg hf, if_neg hf]
theorem check_l0 (cs : List Int) (ps : List (List Nat)) (hl : ps.length < 1000000) (N : Nat) (hN : N < 100000) (hp : ∀ p ∈ ps, p.length ≤ N) (k : Nat) (hk : N + 3 ≤ k) : ∀ (m i : Nat), i + m = ps.length →
    R02_Check.l0 (k + m + 1) cs (ps.map ints) (i : Int) = some (if (ps.drop i).all (partG true) = true then (if (cs.length : Int) > 40 then 2 else if (ps.length : Int) > 5 then 2 else 0) else 3)
  | 0, i, hi => by
    have hil : (ps.map ints).length = ps.length := List.length_map ..
    rw [R02_Check.l0, if_neg (by omega), List.drop_of_length_le (by omega), List.all_nil, if_pos rfl, hil]
    by_cases h1 : (cs.length : Int) > 40
    · rw [if_pos h1, if_pos h1]
    rw [if_neg h1, if_neg h1]
    by_cases h2 : (ps.length : Int) > 5
    · rw [if_pos h2, if_pos h2]
    · rw [if_neg h2, if_neg h2]
  | m + 1, i, hi => by
    have hil : (ps.map ints).length = ps.length := List.length_map ..
    have hlt : i < ps.length := by omega
    have hr : rd_L13 (ps.map ints) (i : Int) = ints ps[i] := by
      unfold rd_L13
      rw [Int.toNat_natCast, List.getD_eq_getElem?_getD, List.getElem?_map, List.getElem?_eq_getElem hlt]; rfl
    have ih := check_l0 cs ps hl N hN hp k hk m (i + 1) (by omega)
    have w1 : wrap64 ((i : Int) + 1) = ((i + 1 : Nat) : Int) := by rw [w64 (by omega) (by omega)]; omega
    have hpi := hp ps[i] (List.getElem_mem _)
    rw [show k + (m + 1) + 1 = (k + m + 1) + 1 by omega, R02_Check.l0, if_pos (by omega), if_pos (by omega), hr, part_q ps[i] (by omega) (k + m + 1) (by omega), Option.bind_some, w1, List.drop_eq_getElem_cons hlt, List.all_cons]
    by_cases hg : partG true ps[i] = true
    · rw [if_pos hg, hg, Bool.true_and]; exact ih
    · rw [if_neg hg, Bool.eq_false_iff.2 hg, Bool.false_and]; rfl
theorem check_ref (s : ByteArray) (hs : s.size < 90000) (k : Nat) (hk : 2 * s.size + 20 ≤ k) : R02_Check.f k s = some (checkN s) := by
  obtain ⟨k, rfl⟩ : ∃ j, k = j + 1 := ⟨k - 1, by omega⟩
  have h3 : R02_Check.j0 (k + 1) s true = some 3 := by rw [R02_Check.j0, if_pos rfl]
  unfold R02_Check.f checkN
  by_cases h0 : s.toList = ([] : List UInt8)
  · have := (toList_nil s).1 h0
    rw [if_pos h0, if_neg (fun h => (formed_valid s h).1 this)]; exact h3
  rw [if_neg h0, valid_ev s (by omega) _ (by omega), Option.bind_some]
  by_cases hv : validD s.data.toList = true
  rotate_left
  · rw [if_neg (fun h => hv (formed_valid s h).2.1), Bool.eq_false_iff.2 hv]; exact h3
  obtain ⟨e1, o1⟩ := valid_runesL _ hv
  have hlen : (runesOf s.data.toList).length ≤ s.size := by
    have := encL_len (runesOf s.data.toList)
    rw [e1, ← size_len] at this; exact this
  have hne : s.size ≠ 0 := fun h => h0 ((toList_nil s).2 h)
  rw [hv, R02_Check.j0, if_neg (by decide), runes_ev s (by omega) _ (by omega), Option.bind_some, split_q _ (by omega) _ (by omega), Option.bind_some]
  have hfb : formedB s = ((cutP (runesOf s.data.toList)).1 :: (cutP (runesOf s.data.toList)).2).all (partG true) := by
    unfold formedB
    rw [decide_eq_true hne, hv, form_cut, List.all_cons]; rfl
  obtain ⟨s1, s2⟩ := cut_small (runesOf s.data.toList)
  have hcl := cut_len (runesOf s.data.toList)
  have hcc : (runesOf s.data.toList).count 46 ≤ (runesOf s.data.toList).length := List.count_le_length
  generalize hps : (cutP (runesOf s.data.toList)).1 :: (cutP (runesOf s.data.toList)).2 = ps at hfb
  have hpl : ps.length = (runesOf s.data.toList).count 46 + 1 := by rw [← hps, List.length_cons, hcl]
  have hm : ints (cutP (runesOf s.data.toList)).1 :: (cutP (runesOf s.data.toList)).2.map ints = ps.map ints := by rw [← hps]; rfl
  have hil : (ints (runesOf s.data.toList)).length = (runesOf s.data.toList).length := by unfold ints; rw [List.length_map]
  have h := check_l0 (ints (runesOf s.data.toList)) ps (by omega) s.size (by omega) (fun p hp => by
    rw [← hps] at hp
    rcases List.mem_cons.1 hp with rfl | hp
    · omega
    · have := s2 p hp; omega) (k - ps.length - 1) (by omega) ps.length 0 (by omega)
  rw [show k - ps.length - 1 + ps.length + 1 = k by omega, List.drop_zero, ← hfb, hil, hpl] at h
  rw [hm]
  refine h.trans ?_
  by_cases hf : formedB s = true
  rotate_left
  · rw [if_neg hf, if_neg hf]
  rw [if_pos hf, if_pos hf]
  by_cases h1 : (runesOf s.data.toList).length > 40
  · rw [if_pos (show ((runesOf s.data.toList).length : Int) > 40 by omega), if_pos h1]
  rw [if_neg (show ¬ ((runesOf s.data.toList).length : Int) > 40 by omega), if_neg h1]
  by_cases h2 : (runesOf s.data.toList).count 46 ≥ 5
  · rw [if_pos (show ((((runesOf s.data.toList).count 46 + 1 : Nat)) : Int) > 5 by omega), if_pos h2]
  · rw [if_neg (show ¬ ((((runesOf s.data.toList).count 46 + 1 : Nat)) : Int) > 5 by omega), if_neg h2]
def simpleB (s : ByteArray) : Bool := decide (checkN s = 0) && decide ((runesOf s.data.toList).count 46 = 0)
theorem check0 (s : ByteArray) (h : checkN s = 0) : formedB s = true := by
  unfold checkN at h
  by_cases hf : formedB s = true
  · exact hf
  · rw [if_neg hf] at h; omega
theorem simple_q (s : ByteArray) (hs : s.size < 1000000) (k : Nat) : schema_simple.f (k + 1) s = some (simpleB s) := by
  unfold schema_simple.f name_Parts.f simpleB
  rw [check_name s hs, Option.bind_some]
  by_cases h : checkN s = 0
  · obtain ⟨h0, hv, hg⟩ := formed_valid s (check0 s h)
    obtain ⟨e1, o1⟩ := valid_runesL _ hv
    rw [if_pos h, Option.bind_some, if_pos h, decide_eq_true h, Bool.true_and]
    unfold strings_Split.f
    rw [if_pos (show s.size < 4294967281 by omega), if_pos (by decide), Option.bind_some, Option.bind_some]
    have hl := Lib.splitB_all (⟨#[46]⟩ : ByteArray) (by decide) 0 (Lib.countB s ⟨#[46]⟩) s rfl
    have hc : Lib.countB s ⟨#[46]⟩ = (runesOf s.data.toList).count 46 := by
      have h1 := count_enc 46 (by omega) _ o1
      rw [e1] at h1
      exact (Lib.count_one 46 s.data.toList).trans h1
    rw [hl, hc]
    by_cases hz : (runesOf s.data.toList).count 46 = 0
    · rw [decide_eq_true hz, hz]; rfl
    · rw [decide_eq_false hz]
      refine congrArg some (beq_eq_false_iff_ne.2 ?_)
      omega
  · rw [if_neg h, decide_eq_false h, Bool.false_and]
theorem cut_mem : ∀ (cs : List Nat), (∀ c ∈ (cutP cs).1, c ∈ cs) ∧ ∀ p ∈ (cutP cs).2, ∀ c ∈ p, c ∈ cs
  | [] => ⟨fun c h => (by cases h), fun p h => (by cases h)⟩
  | c :: cs => by
    obtain ⟨i1, i2⟩ := cut_mem cs
    rw [cutP]
    by_cases h : c = 46
    · rw [if_pos h]
      refine ⟨fun x hx => (by cases hx), fun p hp x hx => ?_⟩
      rcases List.mem_cons.1 hp with rfl | hp
      · exact List.mem_cons_of_mem _ (i1 x hx)
      · exact List.mem_cons_of_mem _ (i2 p hp x hx)
    · rw [if_neg h]
      refine ⟨fun x hx => ?_, fun p hp x hx => List.mem_cons_of_mem _ (i2 p hp x hx)⟩
      rcases List.mem_cons.1 hx with rfl | hx
      · exact List.mem_cons_self
      · exact List.mem_cons_of_mem _ (i1 x hx)
theorem enc4 (c : Nat) : (encodeRune (c : Int)).length ≤ 4 := by
  unfold encodeRune
  rw [List.length_map]
  exact (encodeRuneZ_length (c : Int)).2
theorem bytes_e (c : Nat) (h : okC c) : ∃ E : ByteArray, R02_Bytes.f (c : Int) = some E ∧ E.size ≤ 4 := by
  refine ⟨_, bytesR_q c h, ?_⟩
  rw [size_len]
  have h4 := enc4 c
  generalize encodeRune (c : Int) = l at h4
  exact h4
theorem ints_len (p : List Nat) : (ints p).length = p.length := by unfold ints; rw [List.length_map]
theorem rdL (ps : List (List Nat)) (j : Nat) (hj : j < ps.length) : rd_L13 (ps.map ints) (j : Int) = ints ps[j] := by
  unfold rd_L13
  rw [Int.toNat_natCast, List.getD_eq_getElem?_getD, List.getElem?_map, List.getElem?_eq_getElem hj]; rfl
theorem rdi (p : List Nat) (i : Nat) (h : i < p.length) : rd (ints p) (i : Int) = ((p[i] : Nat) : Int) := by
  unfold rd ints
  rw [Int.toNat_natCast, List.getD_eq_getElem?_getD, List.getElem?_map, List.getElem?_eq_getElem h]; rfl
theorem w1n (i : Nat) (h : i < 200000) : wrap64 ((i : Int) + 1) = ((i + 1 : Nat) : Int) := by rw [w64 (by omega) (by omega)]; omega
theorem parts_l1 (xs : List (List Int)) (p : List Nat) (acc : List ByteArray) (j : Nat) (hj : (j : Int) < (xs.length : Int)) (hp : rd_L13 xs (j : Int) = ints p) (hl : p.length < 100000) (ho : ∀ c ∈ p, okC c) (ha : acc.length < 8796093022208) (hjj : j < 200000) : ∀ (m i f : Nat) (t : ByteArray), i + m = p.length → t.size ≤ 4 * i → m + 1 ≤ f →
    ∃ u, R02_Parts.l1 f xs acc (j : Int) t (i : Int) = R02_Parts.l0 (f - m - 1) xs (acc ++ [u]) ((j + 1 : Nat) : Int)
  | 0, i, f, t, hi, ht, hf => by
    obtain ⟨f, rfl⟩ : ∃ g, f = g + 1 := ⟨f - 1, (Nat.sub_add_cancel hf).symm⟩
    have h1 : ¬ ((i : Int) < ((ints p).length : Int)) := by rw [ints_len]; omega
    refine ⟨t, ?_⟩
    rw [R02_Parts.l1, if_pos (Int.natCast_nonneg j), if_pos hj, hp, if_neg h1, if_pos ha, w1n j hjj]
    rfl
  | m + 1, i, f, t, hi, ht, hf => by
    obtain ⟨f, rfl⟩ : ∃ g, f = g + 1 := ⟨f - 1, (Nat.sub_add_cancel (Nat.le_trans (Nat.succ_le_succ (Nat.zero_le _)) hf)).symm⟩
    have hlt : i < p.length := by omega
    have h1 : (i : Int) < ((ints p).length : Int) := by rw [ints_len]; omega
    have hi2 : i < 200000 := by omega
    obtain ⟨E, hE, hE4⟩ := bytes_e p[i] (ho _ (List.getElem_mem _))
    have hcat : t.size + E.size ≤ 9223372036854775807 := by clear hE; omega
    have hsz : (t ++ E).size ≤ 4 * (i + 1) := by clear hE; rw [ByteArray.size_append]; omega
    have hf2 : m + 1 ≤ f := by clear hE; omega
    have hi3 : i + 1 + m = p.length := by clear hE; omega
    obtain ⟨u, hu⟩ := parts_l1 xs p acc j hj hp hl ho ha hjj m (i + 1) f (t ++ E) hi3 hsz hf2
    have e : f + 1 - (m + 1) - 1 = f - m - 1 := by clear hE hu; omega
    refine ⟨u, ?_⟩
    rw [R02_Parts.l1, if_pos (Int.natCast_nonneg j), if_pos hj, hp, if_pos h1, if_pos (Int.natCast_nonneg i), rdi p i hlt, hE, Option.bind_some, if_pos hcat, w1n i hi2, e]
    exact hu
theorem parts_l0 (ps : List (List Nat)) (N : Nat) (hN : N < 100000) (hp : ∀ p ∈ ps, p.length ≤ N) (hl : ps.length < 100000) (ho : ∀ p ∈ ps, ∀ c ∈ p, okC c) : ∀ (m i f : Nat) (acc : List ByteArray), i + m = ps.length → acc.length = i → m * (N + 2) + 1 ≤ f →
    ∃ l, R02_Parts.l0 f (ps.map ints) acc (i : Int) = some l ∧ l.length = ps.length
  | 0, i, f, acc, hi, ha, hf => by
    obtain ⟨f, rfl⟩ : ∃ g, f = g + 1 := ⟨f - 1, by omega⟩
    have hil : (ps.map ints).length = ps.length := List.length_map ..
    exact ⟨acc, by rw [R02_Parts.l0, if_neg (by omega)], by omega⟩
  | m + 1, i, f, acc, hi, ha, hf => by
    obtain ⟨f, rfl⟩ : ∃ g, f = g + 1 := ⟨f - 1, by omega⟩
    have hil : (ps.map ints).length = ps.length := List.length_map ..
    have hlt : i < ps.length := by omega
    have hm := hp ps[i] (List.getElem_mem _)
    rw [Nat.add_mul, Nat.one_mul] at hf
    obtain ⟨u, hu⟩ := parts_l1 (ps.map ints) ps[i] acc i (by omega) (rdL ps i hlt) (by omega) (ho _ (List.getElem_mem _)) (by omega) (by omega) ps[i].length 0 f ⟨#[]⟩ (by omega) (Nat.le_refl _) (by omega)
    rw [R02_Parts.l0, if_pos (by omega)]
    obtain ⟨l, e, h⟩ := parts_l0 ps N hN hp hl ho m (i + 1) (f - ps[i].length - 1) (acc ++ [u]) (by omega) (by rw [List.length_append]; show acc.length + 1 = _; omega) (by omega)
    exact ⟨l, hu.trans e, h⟩
theorem simple_r (s : ByteArray) (hs : s.size < 90000) (k : Nat) (hk : (s.size + 2) * (s.size + 2) + 2 * s.size + 20 ≤ k) : R04_Simple.f k s = some (simpleB s) := by
  have hmul : 0 ≤ (s.size + 2) * (s.size + 2) := Nat.zero_le _
  unfold R04_Simple.f R02_Parts.f simpleB
  rw [check_ref s hs k (by omega), Option.bind_some]
  by_cases h : checkN s = 0
  · obtain ⟨h0, hv, hg⟩ := formed_valid s (check0 s h)
    obtain ⟨e1, o1⟩ := valid_runesL _ hv
    have hlen : (runesOf s.data.toList).length ≤ s.size := by
      have := encL_len (runesOf s.data.toList)
      rw [e1, ← size_len] at this; exact this
    rw [if_pos h, Option.bind_some, if_pos h, decide_eq_true h, Bool.true_and, runes_ev s (by omega) _ (by omega), Option.bind_some, split_q _ (by omega) _ (by omega), Option.bind_some]
    obtain ⟨s1, s2⟩ := cut_small (runesOf s.data.toList)
    obtain ⟨m1, m2⟩ := cut_mem (runesOf s.data.toList)
    have hcl := cut_len (runesOf s.data.toList)
    have hcc : (runesOf s.data.toList).count 46 ≤ (runesOf s.data.toList).length := List.count_le_length
    obtain ⟨l, e, hl⟩ := parts_l0 ((cutP (runesOf s.data.toList)).1 :: (cutP (runesOf s.data.toList)).2) s.size (by omega)
      (fun p hp => by
        rcases List.mem_cons.1 hp with rfl | hp
        · omega
        · have := s2 p hp; omega)
      (by rw [List.length_cons]; omega)
      (fun p hp c hc => by
        rcases List.mem_cons.1 hp with rfl | hp
        · exact o1 c (m1 c hc)
        · exact o1 c (m2 p hp c hc))
      ((cutP (runesOf s.data.toList)).2.length + 1) 0 k [] (by rw [List.length_cons]; omega) rfl (by
        have : ((cutP (runesOf s.data.toList)).2.length + 1) * (s.size + 2) ≤ (s.size + 2) * (s.size + 2) := Nat.mul_le_mul_right _ (by omega)
        omega)
    have e' : R02_Parts.l0 k (ints (cutP (runesOf s.data.toList)).1 :: List.map ints (cutP (runesOf s.data.toList)).2) ([] : List ByteArray) 0 = some l := e
    rw [e', Option.bind_some, hl, List.length_cons, hcl]
    by_cases hz : (runesOf s.data.toList).count 46 = 0
    · rw [decide_eq_true hz, hz]; rfl
    · rw [decide_eq_false hz]
      refine congrArg some (beq_eq_false_iff_ne.2 ?_)
      omega
  · rw [if_neg h, decide_eq_false h, Bool.false_and]
def ordB {α : Type} (P : α → Bool) (R : α → α → Bool) : Option α → List α → Bool
  | _, [] => true
  | none, x :: xs => P x && ordB P R (some x) xs
  | some y, x :: xs => P x && (R y x && ordB P R (some x) xs)
theorem ordB_map {α β : Type} (f : α → β) (P : β → Bool) (R : β → β → Bool) : ∀ (o : Option α) (l : List α), ordB P R (o.map f) (l.map f) = ordB (fun x => P (f x)) (fun x y => R (f x) (f y)) o l
  | none, [] => rfl
  | some y, [] => rfl
  | none, x :: xs => by
    have ih := ordB_map f P R (some x) xs
    show (P (f x) && ordB P R ((some x).map f) (xs.map f)) = _
    rw [ih]; rfl
  | some y, x :: xs => by
    have ih := ordB_map f P R (some x) xs
    show (P (f x) && (R (f y) (f x) && ordB P R ((some x).map f) (xs.map f))) = _
    rw [ih]; rfl
def lastO {α : Type} (pre : List α) : Option α := pre.getLast?
theorem lastO_nil {α : Type} : lastO ([] : List α) = none := rfl
theorem lastO_snoc {α : Type} (q : List α) (y : α) : lastO (q ++ [y]) = some y := by unfold lastO; simp
theorem snoc_cases {α : Type} (pre : List α) : pre = [] ∨ ∃ q y, pre = q ++ [y] := by
  rcases List.eq_nil_or_concat pre with h | ⟨q, y, h⟩
  · exact .inl h
  · exact .inr ⟨q, y, by rw [h, List.concat_eq_append]⟩
theorem dec_le (n m : Nat) : (decide ((n : Int) ≤ (m : Int))) = decide (n ≤ m) := by
  by_cases h : n ≤ m
  · rw [decide_eq_true h, decide_eq_true (by omega)]
  · rw [decide_eq_false h, decide_eq_false (by omega)]
theorem simple_valid (s : ByteArray) (h : simpleB s = true) : validD s.data.toList = true := by
  unfold simpleB at h
  rw [Bool.and_eq_true, decide_eq_true_eq] at h
  exact (formed_valid s (check0 s h.1)).2.1
theorem cmp_ev (a b : ByteArray) (ha : a.size < 20000) (hb : b.size < 20000) (va : validD a.data.toList = true) (vb : validD b.data.toList = true) : Evn (fun k => name_Compare.f k a b) (cmpB a b) := Evn.of _ (fun k hk => compare_q a b ha hb va vb k hk)
theorem cmpr_ev (a b : ByteArray) (ha : a.size < 20000) (hb : b.size < 20000) (va : validD a.data.toList = true) (vb : validD b.data.toList = true) : Evn (fun k => R02_Compare.f k a b) (cmpB a b) := Evn.of (4 * a.size + 20 + (4 * b.size + 20)) (fun k hk => compare_r a b ha hb va vb k (by omega) (by omega))
abbrev Att := S76
abbrev AttR := S140
def valB (n i : Int) (s : ByteArray) : Bool := (value_Check.f n i s).getD false
theorem val_both (k : Nat) (hk : 206 ≤ k) (a0 a1 : Int) (a2 : ByteArray) : ∃ b, value_Check.f a0 a1 a2 = some b ∧ R03_Check.f k a0 a1 a2 = some b := by
  unfold value_Check.f R03_Check.f
  by_cases hs : (a2.size : Int) ≤ 200
  · rw [valid_ev a2 (by omega) k (by omega)]
    have : utf8_ValidString.f a2 = some (Go.Lib.validD a2.data.toList) := by
      unfold utf8_ValidString.f; rw [if_pos (by omega)]
    rw [this]
    simp only [Option.bind_some]
    repeat' split
    all_goals exact ⟨_, rfl, rfl⟩
  · simp only [hs, if_false]
    repeat' split
    all_goals exact ⟨_, rfl, rfl⟩
theorem val_total (a0 a1 : Int) (a2 : ByteArray) : ∃ b, value_Check.f a0 a1 a2 = some b := by
  unfold value_Check.f
  by_cases hs : (a2.size : Int) ≤ 200
  · have : utf8_ValidString.f a2 = some (Go.Lib.validD a2.data.toList) := by
      unfold utf8_ValidString.f; rw [if_pos (by omega)]
    rw [this]
    simp only [Option.bind_some]
    repeat' split
    all_goals exact ⟨_, rfl⟩
  · simp only [hs, if_false]
    repeat' split
    all_goals exact ⟨_, rfl⟩
theorem val_q (n i : Int) (s : ByteArray) : value_Check.f n i s = some (valB n i s) := by
  obtain ⟨b, h⟩ := val_total n i s
  unfold valB
  rw [h]; rfl
theorem val_r (n i : Int) (s : ByteArray) : Evn (fun k => R03_Check.f k n i s) (valB n i s) := Evn.of 206 (fun k hk => by
  obtain ⟨b, h, h'⟩ := val_both k hk n i s
  unfold valB
  rw [h, h']; rfl)
def attX (x : Att) : Bool := simpleB x.f0 && valB x.f1.f0 x.f1.f1 x.f1.f2
def attR (x : AttR) : Bool := simpleB x.f0 && valB x.f1.f0 x.f1.f1 x.f1.f2
def ltA (x y : Att) : Bool := decide (cmpB x.f0 y.f0 < 0)
def ltAR (x y : AttR) : Bool := decide (cmpB x.f0 y.f0 < 0)
def checkA (l : List Att) : Bool := ordB attX ltA none l && decide (l.length ≤ 24)
theorem attX_valid (x : Att) (h : attX x = true) : validD x.f0.data.toList = true := by
  unfold attX at h
  rw [Bool.and_eq_true] at h
  exact simple_valid _ h.1
theorem attR_valid (x : AttR) (h : attR x = true) : validD x.f0.data.toList = true := by
  unfold attR at h
  rw [Bool.and_eq_true] at h
  exact simple_valid _ h.1
theorem simple_ev (s : ByteArray) (hs : s.size < 1000000) : Evn (fun k => schema_simple.f k s) (simpleB s) := Evn.of1 (fun k => simple_q s hs k)
theorem simpler_ev (s : ByteArray) (hs : s.size < 90000) : Evn (fun k => R04_Simple.f k s) (simpleB s) := Evn.of _ (fun k hk => simple_r s hs k hk)
theorem schemaattrs_l0 (l : List Att) (hs : ∀ x ∈ l, x.f0.size < 20000) (hl : l.length < 100000) :
    ∀ post pre, l = pre ++ post → (∀ y, lastO pre = some y → attX y = true) → Evn (fun k => schema_Attrs.l0 k l l (l.length : Int) (pre.length : Int)) (ordB attX ltA (lastO pre) post && decide (l.length ≤ 24)) := by
  refine Evn.loop (g := fun k i => schema_Attrs.l0 k l l (l.length : Int) i) l (by omega) (fun pre => ∀ y, lastO pre = some y → attX y = true) (fun pre post => ordB attX ltA (lastO pre) post && decide (l.length ≤ 24)) ?_ ?_
  · intro hi hn
    refine Evn.step (fun k => schema_Attrs.l0.eq_2 ..) (Evn.neg hn (Evn.con ?_))
    rw [show (24 : Int) = ((24 : Nat) : Int) from rfl, dec_le]
    rcases snoc_cases l with rfl | ⟨q, y, rfl⟩
    · rfl
    · rw [lastO_snoc]; rfl
  · intro pre x post e hi hlt h0 hw hget hmem ih
    have hrd : rd_T76 l (pre.length : Int) = x := hget _
    have hsx := hs x hmem
    refine Evn.step (fun k => schema_Attrs.l0.eq_2 ..) (Evn.pos hlt (Evn.pos h0 (Evn.pos hlt ?_)))
    rw [hrd, hw]
    have ih' : attX x = true → _ := fun hx => ih (by intro y hy; rw [lastO_snoc] at hy; obtain rfl := Option.some.inj hy; exact hx)
    rw [lastO_snoc] at ih'
    rcases snoc_cases pre with rfl | ⟨q, y, rfl⟩
    · rw [lastO_nil]
      show Evn _ (((simpleB x.f0 && valB x.f1.f0 x.f1.f1 x.f1.f2) && ordB attX ltA (some x) post) && _)
      refine Evn.bind (simple_ev x.f0 (by omega)) ?_
      by_cases h0 : simpleB x.f0 = true
      case neg => exact Evn.val (by simp [h0]) (Evn.neg h0 (Evn.ret false))
      refine Evn.pos h0 ?_
      refine Evn.bind (Evn.con (val_q x.f1.f0 x.f1.f1 x.f1.f2)) ?_
      by_cases h1 : valB x.f1.f0 x.f1.f1 x.f1.f2 = true
      case neg => exact Evn.val (by simp [h1]) (Evn.neg h1 (Evn.ret false))
      refine Evn.pos h1 ?_
      have hx : attX x = true := by show (simpleB x.f0 && valB x.f1.f0 x.f1.f1 x.f1.f2) = true; simp [h0, h1]
      rw [h0, h1]
      show Evn _ (ordB attX ltA (some x) post && _)
      exact Evn.neg (by decide) (ih' hx)
    · rw [lastO_snoc]
      show Evn _ (((simpleB x.f0 && valB x.f1.f0 x.f1.f1 x.f1.f2) && (ltA y x && ordB attX ltA (some x) post)) && _)
      refine Evn.bind (simple_ev x.f0 (by omega)) ?_
      by_cases h0 : simpleB x.f0 = true
      case neg => exact Evn.val (by simp [h0]) (Evn.neg h0 (Evn.ret false))
      refine Evn.pos h0 ?_
      refine Evn.bind (Evn.con (val_q x.f1.f0 x.f1.f1 x.f1.f2)) ?_
      by_cases h1 : valB x.f1.f0 x.f1.f1 x.f1.f2 = true
      case neg => exact Evn.val (by simp [h1]) (Evn.neg h1 (Evn.ret false))
      refine Evn.pos h1 ?_
      have hx : attX x = true := by show (simpleB x.f0 && valB x.f1.f0 x.f1.f1 x.f1.f2) = true; simp [h0, h1]
      rw [h0, h1]
      show Evn _ ((ltA y x && ordB attX ltA (some x) post) && _)
      have hy := hi y (lastO_snoc q y)
      have hrq : rd_T76 l (q.length : Int) = y := by rw [e]; exact getDq q y _ _
      have hql : (q.length : Int) < (l.length : Int) := by rw [List.length_append] at hlt; omega
      have hym : y ∈ l := by rw [e]; simp
      rw [w1m q y (by omega), hrq]
      refine Evn.pos (by rw [List.length_append]; show ((q.length + 1 : Nat) : Int) > 0; omega) (Evn.pos (Int.natCast_nonneg _) (Evn.pos hql (Evn.bind (cmp_ev _ _ (hs y hym) (hs x hmem) (attX_valid y hy) (attX_valid x hx)) ?_)))
      unfold ltA
      by_cases hc : cmpB y.f0 x.f0 < 0
      · rw [decide_eq_true hc, Bool.true_and]
        exact Evn.neg (by omega) (ih' hx)
      · rw [decide_eq_false hc]
        exact Evn.pos (by omega) (Evn.ret _)
theorem schemaattrs_ev (l : List Att) (hs : ∀ x ∈ l, x.f0.size < 20000) (hl : l.length < 100000) : Evn (fun k => schema_Attrs.f k l) (ordB attX ltA none l && decide (l.length ≤ 24)) :=
  schemaattrs_l0 l hs hl l [] rfl (fun y h => by cases h)
theorem caduceusref04attrs_l0 (l : List AttR) (hs : ∀ x ∈ l, x.f0.size < 20000) (hl : l.length < 100000) :
    ∀ post pre, l = pre ++ post → (∀ y, lastO pre = some y → attR y = true) → Evn (fun k => R04_Attrs.l0 k l (pre.length : Int)) (ordB attR ltAR (lastO pre) post && decide (l.length ≤ 24)) := by
  refine Evn.loop (g := fun k i => R04_Attrs.l0 k l i) l (by omega) (fun pre => ∀ y, lastO pre = some y → attR y = true) (fun pre post => ordB attR ltAR (lastO pre) post && decide (l.length ≤ 24)) ?_ ?_
  · intro hi hn
    refine Evn.step (fun k => R04_Attrs.l0.eq_2 ..) (Evn.neg hn (Evn.con ?_))
    rw [show (24 : Int) = ((24 : Nat) : Int) from rfl, dec_le]
    rcases snoc_cases l with rfl | ⟨q, y, rfl⟩
    · rfl
    · rw [lastO_snoc]; rfl
  · intro pre x post e hi hlt h0 hw hget hmem ih
    have hrd : rd_T140 l (pre.length : Int) = x := hget _
    have hsx := hs x hmem
    refine Evn.step (fun k => R04_Attrs.l0.eq_2 ..) (Evn.pos hlt (Evn.pos h0 ?_))
    rw [hrd, hw]
    have ih' : attR x = true → _ := fun hx => ih (by intro y hy; rw [lastO_snoc] at hy; obtain rfl := Option.some.inj hy; exact hx)
    rw [lastO_snoc] at ih'
    rcases snoc_cases pre with rfl | ⟨q, y, rfl⟩
    · rw [lastO_nil]
      show Evn _ (((simpleB x.f0 && valB x.f1.f0 x.f1.f1 x.f1.f2) && ordB attR ltAR (some x) post) && _)
      refine Evn.bind (simpler_ev x.f0 (by omega)) ?_
      by_cases h0 : simpleB x.f0 = true
      case neg => exact Evn.val (by simp [h0]) (Evn.neg h0 (Evn.ret false))
      refine Evn.pos h0 ?_
      refine Evn.bind (val_r x.f1.f0 x.f1.f1 x.f1.f2) ?_
      by_cases h1 : valB x.f1.f0 x.f1.f1 x.f1.f2 = true
      case neg => exact Evn.val (by simp [h1]) (Evn.neg h1 (Evn.ret false))
      refine Evn.pos h1 ?_
      have hx : attR x = true := by show (simpleB x.f0 && valB x.f1.f0 x.f1.f1 x.f1.f2) = true; simp [h0, h1]
      rw [h0, h1]
      show Evn _ (ordB attR ltAR (some x) post && _)
      exact Evn.neg (by decide) (ih' hx)
    · rw [lastO_snoc]
      show Evn _ (((simpleB x.f0 && valB x.f1.f0 x.f1.f1 x.f1.f2) && (ltAR y x && ordB attR ltAR (some x) post)) && _)
      refine Evn.bind (simpler_ev x.f0 (by omega)) ?_
      by_cases h0 : simpleB x.f0 = true
      case neg => exact Evn.val (by simp [h0]) (Evn.neg h0 (Evn.ret false))
      refine Evn.pos h0 ?_
      refine Evn.bind (val_r x.f1.f0 x.f1.f1 x.f1.f2) ?_
      by_cases h1 : valB x.f1.f0 x.f1.f1 x.f1.f2 = true
      case neg => exact Evn.val (by simp [h1]) (Evn.neg h1 (Evn.ret false))
      refine Evn.pos h1 ?_
      have hx : attR x = true := by show (simpleB x.f0 && valB x.f1.f0 x.f1.f1 x.f1.f2) = true; simp [h0, h1]
      rw [h0, h1]
      show Evn _ ((ltAR y x && ordB attR ltAR (some x) post) && _)
      have hy := hi y (lastO_snoc q y)
      have hrq : rd_T140 l (q.length : Int) = y := by rw [e]; exact getDq q y _ _
      have hql : (q.length : Int) < (l.length : Int) := by rw [List.length_append] at hlt; omega
      have hym : y ∈ l := by rw [e]; simp
      rw [w1m q y (by omega), hrq]
      refine Evn.pos (by rw [List.length_append]; show ((q.length + 1 : Nat) : Int) > 0; omega) (Evn.pos (Int.natCast_nonneg _) (Evn.pos hql (Evn.bind (cmpr_ev _ _ (hs y hym) (hs x hmem) (attR_valid y hy) (attR_valid x hx)) ?_)))
      unfold ltAR
      by_cases hc : cmpB y.f0 x.f0 < 0
      · rw [decide_eq_true hc, Bool.true_and]
        exact Evn.neg (by omega) (ih' hx)
      · rw [decide_eq_false hc]
        exact Evn.pos (by omega) (Evn.ret _)
theorem caduceusref04attrs_ev (l : List AttR) (hs : ∀ x ∈ l, x.f0.size < 20000) (hl : l.length < 100000) : Evn (fun k => R04_Attrs.f k l) (ordB attR ltAR none l && decide (l.length ≤ 24)) :=
  caduceusref04attrs_l0 l hs hl l [] rfl (fun y h => by cases h)
def toAR (x : Att) : AttR := ⟨x.f0, ⟨x.f1.f0, x.f1.f1, x.f1.f2⟩⟩
theorem attrs_q (l : List Att) (hs : ∀ x ∈ l, x.f0.size < 20000) (hl : l.length < 100000) : Evn (fun k => schema_Attrs.f k l) (checkA l) := schemaattrs_ev l hs hl
theorem attrs_r (l : List Att) (hs : ∀ x ∈ l, x.f0.size < 20000) (hl : l.length < 100000) : Evn (fun k => R04_Attrs.f k (l.map toAR)) (checkA l) := by
  have h := caduceusref04attrs_ev (l.map toAR) (fun x hx => by obtain ⟨y, hy, rfl⟩ := List.mem_map.1 hx; exact hs y hy) (by rw [List.length_map]; exact hl)
  have e := ordB_map toAR attR ltAR none l
  rw [List.length_map] at h
  refine Evn.val ?_ h
  show (ordB attR ltAR (Option.map toAR none) (l.map toAR) && _) = _
  rw [e]; rfl
def fewS {α : Type} (P : α → Bool) : Nat → List α → Bool
  | _, [] => true
  | i, x :: xs => if i ≤ 40 then (if P x = true then fewS P (i + 1) xs else false) else false
theorem fewS_true {α : Type} (P : α → Bool) : ∀ (l : List α) (i : Nat), fewS P i l = true → (l = [] ∨ i + l.length ≤ 41) ∧ ∀ x ∈ l, P x = true
  | [], i, h => ⟨.inl rfl, fun x hx => by cases hx⟩
  | x :: xs, i, h => by
    rw [fewS] at h
    by_cases h1 : i ≤ 40
    · rw [if_pos h1] at h
      by_cases h2 : P x = true
      · rw [if_pos h2] at h
        obtain ⟨h3, h4⟩ := fewS_true P xs (i + 1) h
        refine ⟨.inr ?_, fun y hy => ?_⟩
        · rw [List.length_cons]
          rcases h3 with rfl | h3
          · show i + (0 + 1) ≤ 41; omega
          · omega
        · rcases List.mem_cons.1 hy with rfl | hy
          · exact h2
          · exact h4 y hy
      · rw [if_neg h2] at h; cases h
    · rw [if_neg h1] at h; cases h
def fewA (l : List Att) : Bool := fewS (fun x => decide (x.f0.size ≤ 200) && decide (x.f1.f2.size ≤ 500)) 0 l
theorem fewA_ev (l : List Att) : Evn (fun k => L04_FewAttrs.f k l) (fewA l) := by
  refine Evn.loopS (g := fun k i => L04_FewAttrs.l0 k l i) l (fun _ => True) (fun pre post => fewS (fun x => decide (x.f0.size ≤ 200) && decide (x.f1.f2.size ≤ 500)) pre.length post) ?_ ?_ l [] rfl trivial
  · intro _ hn
    exact Evn.step (fun k => L04_FewAttrs.l0.eq_2 ..) (Evn.neg hn (Evn.ret _))
  · intro pre x post e _ hlt h0 hw hget hmem ih
    have hrd : rd_T76 l (pre.length : Int) = x := hget _
    refine Evn.step (fun k => L04_FewAttrs.l0.eq_2 ..) (Evn.pos hlt ?_)
    rw [hrd, fewS]
    by_cases h1 : pre.length ≤ 40
    · rw [if_pos h1, hw (by omega)]
      refine Evn.neg (by omega) (Evn.pos h0 ?_)
      by_cases h2 : x.f0.size ≤ 200
      · refine Evn.neg (by omega) ?_
        by_cases h3 : x.f1.f2.size ≤ 500
        · rw [if_pos (by rw [decide_eq_true h2, decide_eq_true h3]; rfl)]
          refine Evn.neg (by omega) ?_
          exact Evn.val (by rw [snocLen]) (ih trivial)
        · rw [if_neg (by rw [decide_eq_false h3, Bool.and_false]; decide)]
          exact Evn.pos (by omega) (Evn.ret _)
      · rw [if_neg (by rw [decide_eq_false h2, Bool.false_and]; decide)]
        exact Evn.pos (by omega) (Evn.ret _)
    · rw [if_neg h1]
      exact Evn.pos (by omega) (Evn.ret _)
theorem fewA_true (l : List Att) (h : fewA l = true) : l.length ≤ 41 ∧ ∀ x ∈ l, x.f0.size ≤ 200 ∧ x.f1.f2.size ≤ 500 := by
  obtain ⟨h1, h2⟩ := fewS_true _ l 0 h
  refine ⟨?_, fun x hx => ?_⟩
  · rcases h1 with rfl | h1
    · exact Nat.zero_le _
    · omega
  · have := h2 x hx
    rw [Bool.and_eq_true, decide_eq_true_eq, decide_eq_true_eq] at this
    exact this
theorem refsA_ev (l : List Att) (hl : l.length < 1000000) : Evn (fun k => L04_Attrs.f k l) (l.map toAR) := by
  have h : ∀ (post pre : List Att), l = pre ++ post → True → Evn (fun k => L04_Attrs.l0 k l (pre.map toAR) (pre.length : Int)) (l.map toAR) := by
    intro post
    induction post with
    | nil =>
      intro pre e _
      rw [List.append_nil] at e
      subst e
      exact Evn.step (fun k => L04_Attrs.l0.eq_2 ..) (Evn.neg (by omega) (Evn.ret _))
    | cons x post ih =>
      intro pre e _
      have hlt : (pre.length : Int) < (l.length : Int) := by rw [e]; exact ltp pre x post
      have hrd : rd_T76 l (pre.length : Int) = x := by rw [e]; exact getDp pre x post _
      have := ih (pre ++ [x]) (by rw [e, List.append_assoc]; rfl) trivial
      rw [List.map_append] at this
      refine Evn.step (fun k => L04_Attrs.l0.eq_2 ..) (Evn.pos hlt (Evn.pos (Int.natCast_nonneg _) (Evn.pos (by rw [List.length_map]; omega) ?_)))
      rw [hrd, w1p pre x (by omega)]
      exact this
  exact h l [] rfl trivial
abbrev bl (l : List UInt8) : ByteArray := ⟨l.toArray⟩
theorem bl_size (l : List UInt8) : (bl l).size = l.length := rfl
theorem bl_ext {a b : ByteArray} (h : a.data.toList = b.data.toList) : a = b := ByteArray.ext (Array.ext' h)
theorem bl_eta (s : ByteArray) : bl s.data.toList = s := bl_ext rfl
theorem bl_app (a b : List UInt8) : bl a ++ bl b = bl (a ++ b) := bl_ext (by rw [ByteArray.data_append, Array.toList_append])
theorem bl_appl (a : List UInt8) (s : ByteArray) : bl a ++ s = bl (a ++ s.data.toList) := bl_ext (by rw [ByteArray.data_append, Array.toList_append])
theorem pre1 (c d : UInt8) (t : List UInt8) (h : d ≠ c) : (List.isPrefixOf [c] (d :: t)) = false := by
  simp only [List.isPrefixOf, Bool.and_eq_false_iff, beq_eq_false_iff_ne]
  exact .inl (fun e => h e.symm)
theorem idx_at (c : UInt8) (r : List UInt8) : ∀ t : List UInt8, c ∉ t → Lib.index (t ++ c :: r) [c] = (t.length : Int)
  | [], _ => by
    rw [List.nil_append, Lib.index, if_pos (by simp)]; rfl
  | d :: t, h => by
    have hd : d ≠ c := fun e => h (e ▸ List.mem_cons_self)
    rw [List.cons_append, Lib.index, pre1 c d _ hd, if_neg (by decide), idx_at c r t (fun e => h (List.mem_cons_of_mem _ e)), if_neg (by rw [beq_iff_eq]; omega), List.length_cons]; omega
theorem drop_mid (c : UInt8) (t r : List UInt8) : (t ++ c :: r).drop (t.length + 1) = r := by
  have e : t ++ c :: r = (t ++ [c]) ++ r := by rw [List.append_assoc]; rfl
  have l : (t ++ [c]).length = t.length + 1 := by rw [List.length_append]; rfl
  rw [e, ← l, List.drop_left]
def preB (s p : ByteArray) : Bool := if p.size ≤ s.size then (s.extract 0 p.size).toList == p.toList else false
theorem baext {a b : ByteArray} (h : a.data.toList = b.data.toList) : a = b := by
  obtain ⟨⟨a⟩⟩ := a
  obtain ⟨⟨b⟩⟩ := b
  simp only at h
  rw [h]
theorem drop_at (l : List UInt8) (i : Nat) (h : i < l.length) : ∃ b, l.drop i = b :: l.drop (i + 1) ∧ byt l i = b.toNat := by
  refine ⟨l[i], List.drop_eq_getElem_cons h, ?_⟩
  unfold byt
  rw [List.getD_eq_getElem?_getD, List.getElem?_eq_getElem h]; rfl
theorem drop_byt (s : ByteArray) (i : Nat) (h : i < s.size) : ∃ b : UInt8, s.data.toList.drop i = b :: s.data.toList.drop (i + 1) ∧ byt s.data.toList i = b.toNat := drop_at _ i (by rw [← size_len]; exact h)
theorem btq (s : ByteArray) (i : Nat) : bt s (i : Int) = (byt s.data.toList i : Int) := by
  have := bt_byt s (i : Int)
  rwa [Int.toNat_natCast] at this
theorem wa1 (i : Nat) (h : i < 1000000) : wrap64 ((i : Int) + 1) = ((i + 1 : Nat) : Int) := by rw [w64 (by omega) (by omega)]; omega
def isCtl (c : Int) : Bool := decide (0 ≤ c ∧ c < 32) || c == 34 || c == 92 || c == 127
theorem isCtl_lt (c : Int) (h : isCtl c = true) : 0 ≤ c ∧ c < 128 := by
  unfold isCtl at h
  simp only [Bool.or_eq_true, decide_eq_true_eq, beq_iff_eq] at h
  omega
theorem pre_iff (s p : ByteArray) : preB s p = true ↔ p.size ≤ s.size ∧ s.data.toList.take p.size = p.data.toList := by
  unfold preB
  by_cases h : p.size ≤ s.size
  · rw [if_pos h, beq_iff_eq]
    have e : (s.extract 0 p.size).toList = s.data.toList.take p.size := by
      rw [ByteArray.toList_eq, ByteArray.data_extract, Array.toList_extract]
      simp
    rw [e, ByteArray.toList_eq]
    exact ⟨fun x => ⟨h, x⟩, fun x => x.2⟩
  · rw [if_neg h]
    simp [h]
theorem ctl_once (s : ByteArray) (a b : Int) (ha : isCtl a = true) (hb : isCtl b = true) (pa : preB s (escB a) = true) (pb : preB s (escB b) = true) : a = b := by
  have ra := isCtl_lt a ha
  have rb := isCtl_lt b hb
  have all : ∀ x y : Fin 128, isCtl (x.val : Int) = true → isCtl (y.val : Int) = true → (escB (x.val : Int)).data.toList.take (escB (y.val : Int)).size = (escB (y.val : Int)).data.toList.take (escB (x.val : Int)).size → x = y := by decide +kernel
  have := all ⟨a.toNat, by omega⟩ ⟨b.toNat, by omega⟩
  simp only [Int.toNat_of_nonneg ra.1, Int.toNat_of_nonneg rb.1] at this
  have e := this ha hb (by
    rw [← ((pre_iff _ _).1 pa).2, ← ((pre_iff _ _).1 pb).2, List.take_take, List.take_take, Nat.min_comm])
  have := congrArg Fin.val e
  simp only at this
  omega
def ctlF (s : ByteArray) : Nat → Nat → Option Nat
  | 0, _ => none
  | m + 1, c => if isCtl c = true ∧ preB s (escB c) = true then some c else ctlF s m (c + 1)
theorem ctlF_some (s : ByteArray) : ∀ m c r, ctlF s m c = some r → c ≤ r ∧ r < c + m ∧ isCtl r = true ∧ preB s (escB r) = true
  | 0, c, r, h => by simp [ctlF] at h
  | m + 1, c, r, h => by
    rw [ctlF] at h
    split at h
    · rename_i h1
      obtain rfl := Option.some.inj h
      exact ⟨by omega, by omega, h1.1, h1.2⟩
    · have := ctlF_some s m (c + 1) r h
      exact ⟨by omega, by omega, this.2.2⟩
theorem ctlF_none (s : ByteArray) : ∀ m c, ctlF s m c = none → ∀ r : Nat, c ≤ r → r < c + m → isCtl r = true → preB s (escB r) = true → False
  | 0, c, h, r, h1, h2, _, _ => by omega
  | m + 1, c, h, r, h1, h2, h3, h4 => by
    rw [ctlF] at h
    split at h
    · cases h
    · rename_i hn
      by_cases e : r = c
      · subst e; exact hn ⟨h3, h4⟩
      · exact ctlF_none s m (c + 1) h r (by omega) (by omega) h3 h4
def ctl (s : ByteArray) : Option Nat := ctlF s 128 0
theorem ctl_of (s : ByteArray) (c : Int) (h : isCtl c = true) (hp : preB s (escB c) = true) : ctl s = some c.toNat := by
  have hr := isCtl_lt c h
  cases e : ctl s with
  | none => exact absurd hp (fun hp => ctlF_none s 128 0 e c.toNat (by omega) (by omega) (by rw [Int.toNat_of_nonneg hr.1]; exact h) (by rw [Int.toNat_of_nonneg hr.1]; exact hp))
  | some r =>
    have := ctlF_some s 128 0 r e
    have e2 := ctl_once s r c this.2.2.1 h this.2.2.2 hp
    rw [← e2, Int.toNat_natCast]
theorem ctl_lt (s : ByteArray) (c : Nat) (h : ctl s = some c) : c < 128 ∧ isCtl c = true ∧ preB s (escB c) = true := by
  have := ctlF_some s 128 0 c h
  exact ⟨by omega, this.2.2⟩
-- the reference's side
theorem escape_r (c : Nat) (h : c < 128) (k : Nat) : R03_escape.f (k + 8) (c : Int) = some (escB (c : Int)) := by
  have all : ∀ n : Fin 128, R03_escape.f 8 ((n.val : Nat) : Int) = some (escB ((n.val : Nat) : Int)) := by decide +kernel
  exact at_rounds (fun k => R03_escape.mono (c : Int) k) (show 8 ≤ k + 8 by omega) (all ⟨c, h⟩)
theorem enc_rune (r : Nat) (hv : r < 55296 ∨ (57343 < r ∧ r ≤ 1114111)) : (Utf8.encode (r : Int)).data.toList = encodeRune (r : Int) := by
  have hvalid : Utf8.valid (r : Int) = true := by
    unfold Utf8.valid
    simp only [Bool.or_eq_true, Bool.and_eq_true, decide_eq_true_eq]
    omega
  unfold Utf8.encode encodeRune
  simp only [hvalid, if_true, Int.toNat_natCast]
  by_cases c1 : r < 128
  · rw [if_pos c1, encodeRuneZ_one (by omega) (by omega)]; simp
  by_cases c2 : r < 2048
  · rw [if_neg c1, if_pos c2, encodeRuneZ_two (by omega) (by omega)]
    simp only [List.map_cons, List.map_nil]
    rw [show (192 + (r : Int) / 64).toNat = 192 + r / 64 by omega, show (128 + (r : Int) % 64).toNat = 128 + r % 64 by omega]
  by_cases c3 : r < 65536
  · rw [if_neg c1, if_neg c2, if_pos c3, encodeRuneZ_three (by omega)]
    simp only [List.map_cons, List.map_nil]
    rw [show (224 + (r : Int) / 4096).toNat = 224 + r / 4096 by omega, show (128 + (r : Int) / 64 % 64).toNat = 128 + r / 64 % 64 by omega, show (128 + (r : Int) % 64).toNat = 128 + r % 64 by omega]
  · rw [if_neg c1, if_neg c2, if_neg c3, encodeRuneZ_four (by omega) (by omega)]
    simp only [List.map_cons, List.map_nil]
    rw [show (240 + (r : Int) / 262144).toNat = 240 + r / 262144 by omega, show (128 + (r : Int) / 4096 % 64).toNat = 128 + r / 4096 % 64 by omega, show (128 + (r : Int) / 64 % 64).toNat = 128 + r / 64 % 64 by omega, show (128 + (r : Int) % 64).toNat = 128 + r % 64 by omega]
theorem ctl_size (s : ByteArray) (c : Nat) (h : ctl s = some c) : 2 ≤ (escB (c : Int)).size ∧ (escB (c : Int)).size ≤ 6 ∧ (escB (c : Int)).size ≤ s.size ∧ c < 128 := by
  obtain ⟨h1, h2, h3⟩ := ctl_lt s c h
  have two := (by decide +kernel : ∀ n : Fin 128, isCtl (n.val : Int) = true → 2 ≤ (escB (n.val : Int)).size) ⟨c, h1⟩ h2
  exact ⟨two, escB_le _, ((pre_iff _ _).1 h3).1, h1⟩
theorem dd_len (u : Nat) : 1 ≤ (decDigits u).length := by rw [decDigits_length]; exact nDigits_pos u
theorem nd_le : ∀ (k u : Nat), u < 10 ^ (k + 1) → nDigits u ≤ k + 1
  | 0, u, h => by rw [nDigits_small (by simpa using h)]; omega
  | k + 1, u, h => by
    by_cases c : u < 10
    · rw [nDigits_small c]; omega
    · rw [nDigits_big c]
      have := nd_le k (u / 10) (by rw [Nat.pow_succ] at h; omega)
      omega
theorem dd_le (u : Nat) (h : u ≤ 9007199254740991) : (decDigits u).length ≤ 16 := by
  rw [decDigits_length]
  refine nd_le 15 u ?_
  have e : 10 ^ (15 + 1) = 10000000000000000 := by decide
  rw [e]; omega
theorem itoa_neg' (n : Int) (h : n < 0) : itoa n = 45 :: decDigits n.natAbs := by unfold itoa; rw [if_pos h]
theorem itoa_pos' (n : Int) (h : ¬ n < 0) : itoa n = decDigits n.toNat := by unfold itoa; rw [if_neg h]
def hexL : List UInt8 → List Int
  | [] => []
  | b :: l => hexd ((b.toNat : Int) / 16) :: hexd ((b.toNat : Int) % 16) :: hexL l
theorem hexL_len : ∀ l, (hexL l).length = 2 * l.length
  | [] => rfl
  | b :: l => by simp only [hexL, List.length_cons, hexL_len l]; omega
theorem and15 (b : Nat) (h : b < 256) : Go.bits .and .u8 (b : Int) 15 = ((b % 16 : Nat) : Int) := by
  have all : ∀ n : Fin 256, Go.bits .and .u8 (n.val : Int) 15 = ((n.val % 16 : Nat) : Int) := by decide +kernel
  exact all ⟨b, h⟩
theorem hexdig (d : Nat) (h : d < 16) : bt (⟨#[48, 49, 50, 51, 52, 53, 54, 55, 56, 57, 97, 98, 99, 100, 101, 102]⟩ : ByteArray) (d : Int) = hexd (d : Int) := by
  have all : ∀ n : Fin 16, bt (⟨#[48, 49, 50, 51, 52, 53, 54, 55, 56, 57, 97, 98, 99, 100, 101, 102]⟩ : ByteArray) (n.val : Int) = hexd (n.val : Int) := by decide +kernel
  exact all ⟨d, h⟩
theorem hexed_l0 (s : ByteArray) (hs : s.size < 1000000) (k : Nat) : ∀ (m i : Nat) (xs : List Int), i ≤ s.size → s.size - i ≤ m → xs.length ≤ 2 + 2 * i → value_hexed.l0 (k + m + 1) s xs (s.size : Int) (i : Int) = some (strOfNums (xs ++ hexL (s.data.toList.drop i) ++ [39]))
  | 0, i, xs, h1, h2, h3 => by
    have e : s.data.toList.drop i = [] := List.drop_of_length_le (by rw [← size_len]; omega)
    rw [show k + 0 + 1 = k + 1 by omega, value_hexed.l0, if_neg (by omega), if_pos (by omega), e, hexL, List.append_nil]
  | m + 1, i, xs, h1, h2, h3 => by
    rw [show k + (m + 1) + 1 = k + m + 1 + 1 by omega, value_hexed.l0]
    by_cases hi : i = s.size
    · have e : s.data.toList.drop i = [] := List.drop_of_length_le (by rw [← size_len]; omega)
      rw [if_neg (by omega), if_pos (by omega), e, hexL, List.append_nil]
    · obtain ⟨b, e, hb⟩ := drop_byt s i (by omega)
      have g := byt_lt s.data.toList i
      rw [if_pos (by omega), if_pos (by omega), if_pos (by omega), btq s i, and15 _ g, show ((byt s.data.toList i : Nat) : Int) / 16 = ((byt s.data.toList i / 16 : Nat) : Int) by omega, if_pos (by omega), if_pos (by omega), if_pos (by omega), if_pos (by omega), Option.bind_some, hexdig _ (by omega), hexdig _ (by omega)]
      rw [if_pos (by show xs.length + 2 < _; omega), wa1 i (by omega), hexed_l0 s hs k m (i + 1) _ (by omega) (by omega) (by rw [List.length_append]; show xs.length + 2 ≤ _; omega)]
      rw [e, hexL, hb, show (((b.toNat / 16 : Nat)) : Int) = (b.toNat : Int) / 16 by omega, show (((b.toNat % 16 : Nat)) : Int) = (b.toNat : Int) % 16 by omega]
      simp only [List.append_assoc, List.cons_append, List.nil_append]
theorem hexed_q (s : ByteArray) (hs : s.size < 1000000) (k : Nat) (hk : s.size + 1 ≤ k) : value_hexed.f k s = some (strOfNums ([120, 39] ++ hexL s.data.toList ++ [39])) := by
  have h := hexed_l0 s hs 0 s.size 0 [120, 39] (by omega) (by omega) (by simp)
  rw [show 0 + s.size + 1 = s.size + 1 by omega, List.drop_zero] at h
  have h0 : value_hexed.f (s.size + 1) s = some (strOfNums ([120, 39] ++ hexL s.data.toList ++ [39])) := by
    unfold value_hexed.f
    exact h
  exact at_rounds (fun k => value_hexed.mono s k) hk h0
def escL : List Nat → List UInt8
  | [] => []
  | c :: cs => (escB (c : Int)).data.toList ++ escL cs
theorem quoted_runes (s : ByteArray) : ∀ (m i : Nat), i ≤ s.size → s.size - i ≤ m → validF m (s.data.toList.drop i) = true → quotedFrom s m i = escL (runesF m (s.data.toList.drop i))
  | 0, i, h1, h2, hv => by
    rw [quotedFrom]; rfl
  | m + 1, i, h1, h2, hv => by
    have hl : (s.data.toList.drop i).length = s.size - i := by rw [List.length_drop, ← size_len]
    rw [quotedFrom, runesF]
    by_cases hi : i = s.size
    · have e : s.data.toList.drop i = [] := List.drop_of_length_le (by rw [← size_len]; omega)
      rw [if_neg (by omega), e]; rfl
    · have hne : ¬ ((s.data.toList.drop i).isEmpty = true) := by
        intro h; rw [List.isEmpty_iff] at h; rw [h] at hl; simp at hl; omega
      have hw := dec_width (s.data.toList.drop i)
      rw [validF, if_neg hne] at hv
      by_cases hz : (dec (s.data.toList.drop i)).2 = 0
      · rw [if_pos hz] at hv; cases hv
      · rw [if_neg hz, List.drop_drop] at hv
        rw [if_pos (by omega), if_neg hne, if_neg hz, decode_dec s i (by omega) hz, escL, quoted_runes s m _ (by omega) (by omega) hv, List.drop_drop]
theorem quoted_q (s : ByteArray) (hs : s.size < 1000000) (hv : validD s.data.toList = true) : value_quoted.f s = some ⟨(34 :: (escL (runesOf s.data.toList) ++ [34])).toArray⟩ := by
  unfold value_quoted.f
  have hl : s.data.toList.length = s.size := (size_len s).symm
  rw [validD_validF, hl] at hv
  rw [if_pos (by omega), quoted_runes s s.size 0 (by omega) (by omega) (by rw [List.drop_zero]; exact hv), List.drop_zero]
  unfold runesOf
  rw [hl]
def showL (a0 a1 : Int) (a2 : ByteArray) : List UInt8 :=
  if a0 = 1 then itoa a1 else if a0 = 2 then 34 :: (escL (runesOf a2.data.toList) ++ [34])
  else if a0 = 3 then (if a1 = 1 then [116, 114, 117, 101] else [102, 97, 108, 115, 101])
  else Go.Lib.bytesOf ([120, 39] ++ hexL a2.data.toList ++ [39])
theorem escB_pl (c : Nat) (h : okC c) (hn : ¬ isCtl (c : Int) = true) : (escB (c : Int)).data.toList = encodeRune (c : Int) ∧ 32 ≤ c ∧ c ≠ 127 ∧ c ≠ 34 ∧ c ≠ 92 := by
  unfold isCtl at hn
  simp only [Bool.or_eq_true, decide_eq_true_eq, beq_iff_eq] at hn
  refine ⟨?_, by omega, by omega, by omega, by omega⟩
  have eb : escB (c : Int) = Utf8.encode (c : Int) := by
    unfold escB
    rw [if_neg (by omega), if_neg (by omega), if_neg (by omega), if_neg (by omega), if_neg (by omega)]
  rw [eb, enc_rune c h]
theorem dd_le13 (u : Nat) (h : u < 10000000000000) : (decDigits u).length ≤ 13 := by
  rw [decDigits_length]; exact nd_le 12 u h
def okId (n0 n1 n2 : Int) : Bool := decide (1 ≤ n0) && (decide (n0 ≤ 15) && ((decide (1 ≤ n1) && decide (n1 ≤ 1099511627775)) && (decide (1 ≤ n2) && decide (n2 ≤ 1099511627775))))
theorem okId_iff (n0 n1 n2 : Int) : okId n0 n1 n2 = true ↔ 1 ≤ n0 ∧ n0 ≤ 15 ∧ (1 ≤ n1 ∧ n1 ≤ 1099511627775) ∧ (1 ≤ n2 ∧ n2 ≤ 1099511627775) := by
  unfold okId
  simp only [Bool.and_eq_true, decide_eq_true_eq]
theorem count_fq (n : Int) : forest_count.f n = some (decide (1 ≤ n) && decide (n ≤ 1099511627775)) := by
  unfold forest_count.f
  by_cases h : n ≥ 1
  · rw [if_pos h, decide_eq_true (show 1 ≤ n from h), Bool.true_and]
  · rw [if_neg h, decide_eq_false (show ¬ 1 ≤ n from h), Bool.false_and]
theorem isid_q (n0 n1 n2 : Int) : forest_IsID.f n0 n1 n2 = some (okId n0 n1 n2) := by
  unfold forest_IsID.f okId
  by_cases h : n0 ≥ 1
  · rw [if_pos h, decide_eq_true (show 1 ≤ n0 from h), Bool.true_and]
    by_cases h2 : n0 ≤ 15
    · rw [if_pos h2, decide_eq_true h2, Bool.true_and, count_fq, Option.bind_some]
      cases hb : (decide (1 ≤ n1) && decide (n1 ≤ 1099511627775)) with
      | false => rw [if_neg (by decide), Bool.false_and]
      | true => rw [if_pos rfl, count_fq, Option.bind_some, Bool.true_and]
    · rw [if_neg h2, decide_eq_false h2, Bool.false_and]
  · rw [if_neg h, decide_eq_false (show ¬ 1 ≤ n0 from h), Bool.false_and]
def idL (n0 n1 n2 : Int) : List UInt8 := decDigits n0.toNat ++ 46 :: (decDigits n1.toNat ++ 46 :: decDigits n2.toNat)
def showId (n0 n1 n2 : Int) : ByteArray := if okId n0 n1 n2 = true then bl (idL n0 n1 n2) else bl []
theorem idL_len (n0 n1 n2 : Int) (h : okId n0 n1 n2 = true) : (idL n0 n1 n2).length ≤ 41 ∧ 5 ≤ (idL n0 n1 n2).length := by
  obtain ⟨h1, h2, h3, h4⟩ := (okId_iff ..).1 h
  have a := dd_le13 n0.toNat (by omega)
  have b := dd_le13 n1.toNat (by omega)
  have c := dd_le13 n2.toNat (by omega)
  have a' := dd_len n0.toNat
  have b' := dd_len n1.toNat
  have c' := dd_len n2.toNat
  unfold idL
  rw [List.length_append, List.length_cons, List.length_append, List.length_cons]
  omega
theorem showId_q (n0 n1 n2 : Int) : event_ShowID.f n0 n1 n2 = some (showId n0 n1 n2) := by
  unfold event_ShowID.f showId
  rw [isid_q, Option.bind_some]
  by_cases h : okId n0 n1 n2 = true
  · obtain ⟨h1, h2, h3, h4⟩ := (okId_iff ..).1 h
    have a := dd_le13 n0.toNat (by omega)
    have b := dd_le13 n1.toNat (by omega)
    have c := dd_le13 n2.toNat (by omega)
    have i0 : strconv_Itoa.f n0 = some (bl (decDigits n0.toNat)) := by unfold strconv_Itoa.f; rw [if_pos (by omega), itoa_pos' n0 (by omega)]
    have i1 : strconv_Itoa.f n1 = some (bl (decDigits n1.toNat)) := by unfold strconv_Itoa.f; rw [if_pos (by omega), itoa_pos' n1 (by omega)]
    have i2 : strconv_Itoa.f n2 = some (bl (decDigits n2.toNat)) := by unfold strconv_Itoa.f; rw [if_pos (by omega), itoa_pos' n2 (by omega)]
    have d : (⟨#[46]⟩ : ByteArray) = bl [46] := rfl
    have l1 : ([46] : List UInt8).length = 1 := rfl
    rw [if_pos h, if_pos h, i0, Option.bind_some, d, bl_size, if_pos (by omega), i1, Option.bind_some, bl_app, bl_size, bl_size, if_pos (by rw [List.length_append, l1]; omega), bl_app, bl_size, if_pos (by rw [List.length_append, List.length_append, l1]; omega), i2, Option.bind_some, bl_app, bl_size, bl_size, if_pos (by rw [List.length_append, List.length_append, List.length_append, l1]; omega), bl_app]
    unfold idL
    exact congrArg (fun l => some (bl l)) (by rw [List.append_assoc, List.append_assoc, List.append_assoc]; rfl)
  · rw [if_neg h, if_neg h]
theorem count_one (c : UInt8) (a r : List UInt8) (h : c ∉ a) (f : Nat) : Lib.countFrom [c] (f + 1) (a ++ c :: r) = 1 + Lib.countFrom [c] f r := by
  rw [Lib.countFrom, idx_at c r a h, if_neg (by rw [beq_iff_eq]; omega), Int.toNat_natCast]
  show 1 + Lib.countFrom [c] f ((a ++ c :: r).drop (a.length + 1)) = _
  rw [drop_mid]
def be (l : List UInt8) : Nat → Nat
  | 0 => byt l 0 % 64
  | i + 1 => 256 * be l i + byt l (i + 1)
def szOf (n : Nat) : Nat := if n < 64 then 1 else if n < 16384 then 2 else if n < 1073741824 then 4 else 8
theorem qsize (n : Nat) (h : n ≤ 4611686018427387903) (k : Nat) : quic_Size.f (k + 1) (n : Int) = some (szOf n : Int) := by
  unfold quic_Size.f szOf
  rw [if_neg (by omega), quic_Size.j0, if_neg (by simp; omega)]
  have e1 : wrap64 (1 * 2) = 2 := by unfold wrap64; omega
  have e2 : wrap64 (2 * 2) = 4 := by unfold wrap64; omega
  have e3 : wrap64 (4 * 2) = 8 := by unfold wrap64; omega
  rw [e1, e2, e3]
  by_cases h1 : n < 64
  · rw [if_neg (by omega), if_neg (by omega), if_neg (by omega), if_pos h1]; rfl
  by_cases h2 : n < 16384
  · rw [if_neg (by omega), if_neg (by omega), if_pos (by omega), if_neg h1, if_pos h2]; rfl
  by_cases h3 : n < 1073741824
  · rw [if_neg (by omega), if_pos (by omega), if_neg h1, if_neg h2, if_pos h3]; rfl
  · rw [if_pos (by omega), if_neg h1, if_neg h2, if_neg h3]; rfl
def numB (n : Nat) : List Int :=
  if n < 64 then [(n : Int)]
  else if n < 16384 then [((n / 256 + 64 : Nat) : Int), ((n % 256 : Nat) : Int)]
  else if n < 1073741824 then [((n / 16777216 + 128 : Nat) : Int), ((n / 65536 % 256 : Nat) : Int), ((n / 256 % 256 : Nat) : Int), ((n % 256 : Nat) : Int)]
  else [((n / 72057594037927936 + 192 : Nat) : Int), ((n / 281474976710656 % 256 : Nat) : Int), ((n / 1099511627776 % 256 : Nat) : Int), ((n / 4294967296 % 256 : Nat) : Int), ((n / 16777216 % 256 : Nat) : Int), ((n / 65536 % 256 : Nat) : Int), ((n / 256 % 256 : Nat) : Int), ((n % 256 : Nat) : Int)]
theorem numB_len (n : Nat) : (numB n).length = szOf n := by
  unfold numB szOf
  repeat' split
  all_goals rfl
theorem szOf_cases (n : Nat) : (n < 64 ∧ szOf n = 1) ∨ (64 ≤ n ∧ n < 16384 ∧ szOf n = 2) ∨ (16384 ≤ n ∧ n < 1073741824 ∧ szOf n = 4) ∨ (1073741824 ≤ n ∧ szOf n = 8) := by
  unfold szOf
  repeat' split
  all_goals omega
def encN (n : Nat) : List UInt8 := Go.Lib.bytesOf (numB n)
theorem encN_len (n : Nat) : (encN n).length = szOf n := by
  unfold encN Go.Lib.bytesOf
  rw [List.length_map, numB_len]
theorem szOf_pos (n : Nat) : 1 ≤ szOf n ∧ szOf n ≤ 8 := by have := szOf_cases n; omega
theorem orC (x c : Nat) (hx : x < 64) (hc : c < 4) : Go.bits .or .u8 (x : Int) ((64 * c : Nat) : Int) = ((x + 64 * c : Nat) : Int) := by
  have all : ∀ (x : Fin 64) (c : Fin 4), Go.bits .or .u8 (x.val : Int) ((64 * c.val : Nat) : Int) = ((x.val + 64 * c.val : Nat) : Int) := by decide +kernel
  exact all ⟨x, hx⟩ ⟨c, hc⟩
theorem qstep (n sz : Nat) (h : n ≤ 4611686018427387903) (hsz : sz ≤ 8) (L : List Int) (hL : L.length = sz) (j : Nat) (hj : j < sz) (P : Nat) (hP : P = 2 ^ (8 * j)) (J K : Int) (hJ : J = j) (hK : K = (j : Int) + 1) (k : Nat) :
    quic_Num.l0 (k + 1) (n : Int) (sz : Int) L (sz : Int) J = quic_Num.l0 k (n : Int) (sz : Int) (L.set (sz - 1 - j) ((n / P % 256 : Nat) : Int)) (sz : Int) K := by
  subst hJ hK
  have e : wrap64 (8 * (j : Int)) = ((8 * j : Nat) : Int) := by rw [w64 (by omega) (by omega)]; omega
  have e1 : wrap64 (wrap64 ((sz : Int) - 1) - (j : Int)) = ((sz - 1 - j : Nat) : Int) := by
    rw [w64 (x := (sz : Int) - 1) (by omega) (by omega), w64 (by omega) (by omega)]; omega
  have e3 : shr .i64 (n : Int) ((8 * j : Nat) : Int) = ((n / P : Nat) : Int) := by
    unfold shr
    rw [Int.toNat_natCast, Nat.min_eq_left (by show 8 * j ≤ 64; omega), hP, Int.natCast_ediv]
    congr 1
  rw [quic_Num.l0, if_pos (by omega), e, if_pos (by omega), e1, if_pos (by omega), if_pos (by rw [hL]; omega), e3, Int.toNat_natCast, Int.natCast_emod, w64 (by omega) (by omega)]
  rfl
theorem qlast (n sz : Nat) (L : List Int) (hL : L.length = sz) (hz : 1 ≤ sz) (J : Int) (hJ : J = (sz : Int)) (c x : Nat) (hc : c < 4) (k : Nat) (hcl : quic_class.f k (sz : Int) = some (c : Int)) (hx : rd L 0 = (x : Int)) (hx6 : x < 64) :
    quic_Num.l0 (k + 1) (n : Int) (sz : Int) L (sz : Int) J = some (strOfNums (L.set 0 ((x + 64 * c : Nat) : Int))) := by
  subst hJ
  rw [quic_Num.l0, if_neg (by omega), if_pos (by omega), hcl, Option.bind_some, hx, w64 (by omega) (by omega), show ((c : Int) * 64) % 256 = ((64 * c : Nat) : Int) by omega, orC x c hx6 hc]
  rfl
theorem cls2 (k : Nat) : quic_class.f (k + 5) ((2 : Nat) : Int) = some ((1 : Nat) : Int) := by
  unfold quic_class.f
  rw [quic_class.l0, if_pos (by decide), show wrap64 (Int.tdiv ((2 : Nat) : Int) 2) = 1 by decide +kernel, show wrap64 (0 + 1) = 1 by decide +kernel, quic_class.l0, if_neg (by decide)]; rfl
theorem cls4 (k : Nat) : quic_class.f (k + 5) ((4 : Nat) : Int) = some ((2 : Nat) : Int) := by
  unfold quic_class.f
  rw [quic_class.l0, if_pos (by decide), show wrap64 (Int.tdiv ((4 : Nat) : Int) 2) = 2 by decide +kernel, show wrap64 (0 + 1) = 1 by decide +kernel, quic_class.l0, if_pos (by decide), show wrap64 (Int.tdiv 2 2) = 1 by decide +kernel, show wrap64 (1 + 1) = 2 by decide +kernel, quic_class.l0, if_neg (by decide)]; rfl
theorem cls8 (k : Nat) : quic_class.f (k + 5) ((8 : Nat) : Int) = some ((3 : Nat) : Int) := by
  unfold quic_class.f
  rw [quic_class.l0, if_pos (by decide), show wrap64 (Int.tdiv ((8 : Nat) : Int) 2) = 4 by decide +kernel, show wrap64 (0 + 1) = 1 by decide +kernel, quic_class.l0, if_pos (by decide), show wrap64 (Int.tdiv 4 2) = 2 by decide +kernel, show wrap64 (1 + 1) = 2 by decide +kernel, quic_class.l0, if_pos (by decide), show wrap64 (Int.tdiv 2 2) = 1 by decide +kernel, show wrap64 (2 + 1) = 3 by decide +kernel, quic_class.l0, if_neg (by decide)]; rfl
theorem numq (n : Nat) (h : n ≤ 4611686018427387903) (k : Nat) : quic_Num.f (k + 20) (n : Int) = some (strOfNums (numB n)) := by
  unfold quic_Num.f
  rw [show k + 20 = k + 19 + 1 by omega, qsize n h (k + 19), Option.bind_some]
  have hp := szOf_pos n
  rw [if_neg (by omega), if_pos (by omega), if_pos (by omega), Int.toNat_natCast]
  unfold szOf numB
  by_cases h1 : n < 64
  · rw [if_pos h1, if_pos h1, qstep n 1 h (by omega) _ rfl 0 (by omega) 1 (by decide) 0 1 rfl rfl]
    rw [qlast n 1 _ rfl (by omega) 1 rfl 0 (n / 1 % 256) (by omega) (k + 18) rfl rfl (by omega), show n / 1 % 256 + 64 * 0 = n by omega]; rfl
  rw [if_neg h1, if_neg h1]
  by_cases h2 : n < 16384
  · rw [if_pos h2, if_pos h2, qstep n 2 h (by omega) _ rfl 0 (by omega) 1 (by decide) 0 1 rfl rfl, qstep n 2 h (by omega) _ rfl 1 (by omega) 256 (by decide) 1 2 rfl rfl]
    rw [qlast n 2 _ rfl (by omega) 2 rfl 1 (n / 256 % 256) (by omega) (k + 17) (cls2 (k + 12)) rfl (by omega), show n / 256 % 256 + 64 * 1 = n / 256 + 64 by omega]
    rw [show n / 1 % 256 = n % 256 by omega]; rfl
  rw [if_neg h2, if_neg h2]
  by_cases h3 : n < 1073741824
  · rw [if_pos h3, if_pos h3, qstep n 4 h (by omega) _ rfl 0 (by omega) 1 (by decide) 0 1 rfl rfl, qstep n 4 h (by omega) _ rfl 1 (by omega) 256 (by decide) 1 2 rfl rfl, qstep n 4 h (by omega) _ rfl 2 (by omega) 65536 (by decide) 2 3 rfl rfl, qstep n 4 h (by omega) _ rfl 3 (by omega) 16777216 (by decide) 3 4 rfl rfl]
    rw [qlast n 4 _ rfl (by omega) 4 rfl 2 (n / 16777216 % 256) (by omega) (k + 15) (cls4 (k + 10)) rfl (by omega), show n / 16777216 % 256 + 64 * 2 = n / 16777216 + 128 by omega]
    rw [show n / 1 % 256 = n % 256 by omega]; rfl
  · rw [if_neg h3, if_neg h3, qstep n 8 h (by omega) _ rfl 0 (by omega) 1 (by decide) 0 1 rfl rfl, qstep n 8 h (by omega) _ rfl 1 (by omega) 256 (by decide) 1 2 rfl rfl, qstep n 8 h (by omega) _ rfl 2 (by omega) 65536 (by decide) 2 3 rfl rfl, qstep n 8 h (by omega) _ rfl 3 (by omega) 16777216 (by decide) 3 4 rfl rfl,
      qstep n 8 h (by omega) _ rfl 4 (by omega) 4294967296 (by decide) 4 5 rfl rfl, qstep n 8 h (by omega) _ rfl 5 (by omega) 1099511627776 (by decide) 5 6 rfl rfl, qstep n 8 h (by omega) _ rfl 6 (by omega) 281474976710656 (by decide) 6 7 rfl rfl, qstep n 8 h (by omega) _ rfl 7 (by omega) 72057594037927936 (by decide) 7 8 rfl rfl]
    rw [qlast n 8 _ rfl (by omega) 8 rfl 3 (n / 72057594037927936 % 256) (by omega) (k + 11) (cls8 (k + 6)) rfl (by omega), show n / 72057594037927936 % 256 + 64 * 3 = n / 72057594037927936 + 192 by omega]
    rw [show n / 1 % 256 = n % 256 by omega]; rfl
def okV (a0 a1 : Int) (a2 : ByteArray) : Prop :=
  (a0 = 1 ∧ -9007199254740991 ≤ a1 ∧ a1 ≤ 9007199254740991 ∧ a2.size = 0) ∨ (a0 = 2 ∧ a1 = 0 ∧ a2.size ≤ 200 ∧ validD a2.data.toList = true) ∨ (a0 = 3 ∧ (a1 = 0 ∨ a1 = 1) ∧ a2.size = 0) ∨ (a0 = 4 ∧ a1 = 0 ∧ a2.size ≤ 200)
theorem empty_beq (s : ByteArray) : (s.toList == ([] : List UInt8)) = decide (s.size = 0) := by
  have h := toList_nil s
  by_cases c : s.size = 0
  · rw [h.2 c, decide_eq_true c]; rfl
  · rw [decide_eq_false c]
    exact beq_eq_false_iff_ne.2 fun e => c (h.1 e)
theorem check_ok (a0 a1 : Int) (a2 : ByteArray) (h : okV a0 a1 a2) : value_Check.f a0 a1 a2 = some true := by
  unfold value_Check.f
  rw [empty_beq]
  rcases h with ⟨rfl, h1, h2, h3⟩ | ⟨rfl, rfl, h1, h2⟩ | ⟨rfl, h1, h2⟩ | ⟨rfl, rfl, h1⟩
  · rw [if_pos rfl, if_pos (by omega), if_pos (by omega), decide_eq_true h3]
  · rw [if_neg (by omega), if_pos rfl, if_pos rfl, if_pos (by omega), utf8_ValidString.f, if_pos (by omega), Option.bind_some, h2]
  · rw [if_neg (by omega), if_neg (by omega), if_pos rfl, decide_eq_true h2]
    rcases h1 with rfl | rfl <;> rfl
  · rw [if_neg (by omega), if_neg (by omega), if_neg (by omega), if_pos rfl, if_pos rfl, decide_eq_true (by omega)]
theorem check_no (a0 a1 : Int) (a2 : ByteArray) (h : ¬ okV a0 a1 a2) : value_Check.f a0 a1 a2 = some false := by
  unfold value_Check.f
  unfold okV at h
  rw [empty_beq]
  by_cases c1 : a0 = 1
  · subst c1
    rw [if_pos rfl]
    by_cases d1 : a1 ≥ -9007199254740991
    · rw [if_pos d1]
      by_cases d2 : a1 ≤ 9007199254740991
      · rw [if_pos d2, decide_eq_false fun e => h (.inl ⟨rfl, d1, d2, e⟩)]
      · rw [if_neg d2]
    · rw [if_neg d1]
  rw [if_neg c1]
  by_cases c2 : a0 = 2
  · subst c2
    rw [if_pos rfl]
    by_cases d1 : a1 = 0
    · rw [if_pos d1]
      by_cases d2 : (a2.size : Int) ≤ 200
      · rw [if_pos d2, utf8_ValidString.f, if_pos (by omega), Option.bind_some]
        by_cases d3 : validD a2.data.toList = true
        · exact absurd (.inr (.inl ⟨rfl, d1, by omega, d3⟩)) h
        · rw [Bool.not_eq_true] at d3; rw [d3]
      · rw [if_neg d2]
    · rw [if_neg d1]
  rw [if_neg c2]
  by_cases c3 : a0 = 3
  · subst c3
    rw [if_pos rfl]
    by_cases d1 : a1 = 0
    · rw [if_pos d1, decide_eq_false fun e => h (.inr (.inr (.inl ⟨rfl, .inl d1, e⟩)))]
    rw [if_neg d1]
    by_cases d2 : a1 = 1
    · rw [if_pos d2, decide_eq_false fun e => h (.inr (.inr (.inl ⟨rfl, .inr d2, e⟩)))]
    rw [if_neg d2]
  rw [if_neg c3]
  by_cases c4 : a0 = 4
  · subst c4
    rw [if_pos rfl]
    by_cases d1 : a1 = 0
    · rw [if_pos d1, decide_eq_false fun e => h (.inr (.inr (.inr ⟨rfl, d1, by omega⟩)))]
    rw [if_neg d1]
  rw [if_neg c4]
def foldN (v : Int) : Nat := if v < 0 then (-2 * v - 1).toNat else (2 * v).toNat
def textL (a0 a1 : Int) (a2 : ByteArray) : List UInt8 :=
  encN a0.toNat ++ (if a0 = 1 then encN (foldN a1) else if a0 = 3 then [UInt8.ofNat a1.toNat] else encN a2.size ++ a2.data.toList)
theorem numS (n : Nat) : (strOfNums (numB n)).data.toList = encN n := rfl
theorem numS_size (n : Nat) : (strOfNums (numB n)).size = szOf n := by rw [size_len, numS, encN_len]
theorem one1 (n : Nat) (h : n ≤ 4611686018427387903) (k : Nat) : quic_one.f (k + 20) 1 (n : Int) ⟨#[]⟩ = some (strOfNums (numB n), true) := by
  unfold quic_one.f
  rw [if_pos rfl, numq n h k, Option.bind_some, if_pos (by omega), if_pos (by omega), empty_beq]; rfl
theorem one2 (v : Int) (h0 : -9007199254740991 ≤ v) (h1 : v ≤ 9007199254740991) (k : Nat) : quic_one.f (k + 20) 2 v ⟨#[]⟩ = some (strOfNums (numB (foldN v)), true) := by
  have hw : quic_whole.f v = some true := by unfold quic_whole.f; rw [if_pos (by omega), decide_eq_true (by omega)]
  have hf : quic_fold.f v = some (foldN v : Int) := by
    unfold quic_fold.f foldN
    by_cases c : v < 0
    · rw [if_pos c, if_pos c, w64 (x := (-2) * v) (by omega) (by omega), w64 (by omega) (by omega), Int.toNat_of_nonneg (by omega)]
    · rw [if_neg c, if_neg c, w64 (by omega) (by omega), Int.toNat_of_nonneg (by omega)]
  have hn : foldN v ≤ 4611686018427387903 := by unfold foldN; split <;> omega
  unfold quic_one.f quic_Whole.f
  rw [if_neg (by omega), if_pos rfl, hw, Option.bind_some, if_pos rfl, hf, Option.bind_some, numq _ hn k, Option.bind_some, Option.bind_some, Option.bind_some, if_pos rfl, empty_beq]; rfl
theorem one3 (b : Int) (h : b = 0 ∨ b = 1) (k : Nat) : quic_one.f k 3 b ⟨#[]⟩ = some (⟨#[UInt8.ofNat b.toNat]⟩, true) := by
  unfold quic_one.f
  rw [if_neg (by omega), if_neg (by omega), if_pos rfl, Option.bind_some, empty_beq]
  rcases h with rfl | rfl <;> rfl
theorem one4 (S : ByteArray) (h : S.size ≤ 200) (k : Nat) : quic_one.f (k + 20) 4 0 S = some (strOfNums (numB S.size) ++ S, true) := by
  unfold quic_one.f quic_text.f
  have := szOf_pos S.size
  rw [if_neg (by omega), if_neg (by omega), if_neg (by omega), if_pos rfl, numq _ (by omega) k, Option.bind_some, if_pos (by rw [numS_size]; omega), Option.bind_some, if_pos (by omega)]; rfl
theorem put2 (k : Nat) (x y : S147) (a b : ByteArray) (hx : quic_one.f k x.f0 x.f1 x.f2 = some (a, true)) (hy : quic_one.f k y.f0 y.f1 y.f2 = some (b, true)) (ha : a.size ≤ 1000000) (hb : b.size ≤ 1000000) :
    quic_Put.f k ([x] ++ [y]) = some (⟨(a.data.toList ++ b.data.toList).toArray⟩, 0) := by
  unfold quic_Put.f
  show (if 2 ≤ 4096 then quic_Put.go k [x, y] [] else _) = _
  rw [if_pos (by omega), quic_Put.go, hx, Option.bind_some, if_pos rfl, if_pos (by show 0 + a.size ≤ _; omega), quic_Put.go, hy, Option.bind_some, if_pos rfl, if_pos (by rw [List.nil_append, ← size_len]; show a.size + b.size ≤ _; omega), quic_Put.go, List.nil_append]
theorem vtext_q (a0 a1 : Int) (a2 : ByteArray) (h : okV a0 a1 a2) (k : Nat) : value_Text.f (k + 20) a0 a1 a2 = some ⟨(textL a0 a1 a2).toArray⟩ := by
  unfold value_Text.f textL
  rw [check_ok _ _ _ h, Option.bind_some, if_pos rfl, Option.bind_some]
  have hl : ∀ x : S147, ([x] : List S147).length < 4398046511104 := fun x => by show 1 < _; omega
  have hz : ∀ n : Nat, (strOfNums (numB n)).size ≤ 1000 := fun n => by rw [numS_size]; have := szOf_pos n; omega
  rcases h with ⟨rfl, h1, h2, h3⟩ | ⟨rfl, rfl, h1, h2⟩ | ⟨rfl, h1, h2⟩ | ⟨rfl, rfl, h1⟩
  · rw [if_pos rfl, if_pos (hl _), put2 _ _ _ _ _ (one1 1 (by omega) k) (one2 a1 h1 h2 k) (by have := hz 1; omega) (by have := hz (foldN a1); omega), Option.bind_some, if_pos rfl]; rfl
  · rw [if_neg (by omega), if_neg (by omega), if_pos (hl _), put2 _ _ _ _ _ (one1 2 (by omega) k) (one4 a2 h1 k) (by have := hz 2; omega) (by rw [ByteArray.size_append]; have := hz a2.size; omega), Option.bind_some, if_neg (by omega), if_neg (by omega), ByteArray.data_append, Array.toList_append]; rfl
  · rw [if_neg (by omega), if_pos rfl, if_pos (hl _), put2 _ _ _ _ _ (one1 3 (by omega) k) (one3 a1 h1 (k + 20)) (by have := hz 3; omega) (by show 1 ≤ _; omega), Option.bind_some, if_neg (by omega), if_pos rfl]; rfl
  · rw [if_neg (by omega), if_neg (by omega), if_pos (hl _), put2 _ _ _ _ _ (one1 4 (by omega) k) (one4 a2 h1 k) (by have := hz 4; omega) (by rw [ByteArray.size_append]; have := hz a2.size; omega), Option.bind_some, if_neg (by omega), if_neg (by omega), ByteArray.data_append, Array.toList_append]; rfl
instance (a0 a1 : Int) (a2 : ByteArray) : Decidable (okV a0 a1 a2) := by unfold okV; infer_instance
def hw (n : Int) : Int := if n = 1 then 2 else if n = 3 then 3 else if n = 2 then 4 else if n = 4 then 4 else 0
abbrev Itm := S147
def itemL (x : Itm) : List UInt8 := if x.f0 = 1 then encN x.f1.toNat else if x.f0 = 3 then [UInt8.ofNat x.f1.toNat] else encN x.f2.size ++ x.f2.data.toList
def okI (x : Itm) : Prop := (x.f0 = 1 ∧ 0 ≤ x.f1 ∧ x.f1 ≤ 4611686018427387903 ∧ x.f2 = ⟨#[]⟩) ∨ (x.f0 = 3 ∧ (x.f1 = 0 ∨ x.f1 = 1) ∧ x.f2 = ⟨#[]⟩) ∨ (x.f0 = 4 ∧ x.f1 = 0 ∧ x.f2.size ≤ 65536)
def rowL (l : List Itm) : List UInt8 := (l.map itemL).flatten
theorem num_ev (n : Nat) (h : n ≤ 4611686018427387903) : Evn (fun k => quic_Num.f k (n : Int)) (bl (encN n)) := Evn.of 20 (fun k hk => by
  have := numq n h (k - 20)
  rw [show k - 20 + 20 = k by omega] at this
  rw [this]; exact congrArg some (bl_eta _).symm)
theorem one_ev (x : Itm) (h : okI x) : Evn (fun k => quic_one.f k x.f0 x.f1 x.f2) (bl (itemL x), true) := by
  obtain ⟨q, n, S⟩ := x
  rcases h with ⟨rfl, h0, h1, rfl⟩ | ⟨rfl, h0, rfl⟩ | ⟨rfl, rfl, h0⟩
  · refine Evn.of 20 (fun k hk => ?_)
    have := one1 n.toNat (by dsimp only at h1; omega) (k - 20)
    rw [show k - 20 + 20 = k by omega, Int.toNat_of_nonneg h0] at this
    show quic_one.f k 1 n ⟨#[]⟩ = _
    rw [this]
    exact congrArg (fun z => some (z, true)) (bl_eta _).symm
  · refine Evn.of 0 (fun k hk => ?_)
    show quic_one.f k 3 n ⟨#[]⟩ = _
    rw [one3 n h0 k]; rfl
  · refine Evn.of 20 (fun k hk => ?_)
    have hp := szOf_pos S.size
    have hn := numq S.size (by dsimp only at h0; omega) (k - 20)
    rw [show k - 20 + 20 = k by omega] at hn
    dsimp only at h0
    show quic_one.f k 4 0 S = _
    unfold quic_one.f quic_text.f
    rw [if_neg (by omega), if_neg (by omega), if_neg (by omega), if_pos rfl, hn, Option.bind_some, if_pos (by rw [numS_size]; omega), Option.bind_some, if_pos (by omega)]
    refine congrArg some (Prod.ext ?_ rfl)
    refine bl_ext ?_
    rw [ByteArray.data_append, Array.toList_append]; rfl
theorem item_len (x : Itm) (h : okI x) : (itemL x).length ≤ 65544 := by
  unfold itemL
  rcases h with ⟨h, _, _, _⟩ | ⟨h, _, _⟩ | ⟨h, _, hz⟩
  · rw [if_pos h, encN_len]; have := szOf_pos x.f1.toNat; omega
  · rw [if_neg (by omega), if_pos h]; show 1 ≤ 65544; omega
  · rw [if_neg (by omega), if_neg (by omega), List.length_append, encN_len, ← size_len]; have := szOf_pos x.f2.size; omega
theorem put_go : ∀ (l : List Itm) (acc : List UInt8), (∀ x ∈ l, okI x) → acc.length + 65544 * l.length ≤ 140737488355328 → Evn (fun k => quic_Put.go k l acc) (bl (acc ++ rowL l), 0)
  | [], acc, h, hl => by
    unfold rowL
    rw [List.map_nil, List.flatten_nil, List.append_nil]
    exact Evn.ret _
  | x :: l, acc, h, hl => by
    have hx := h x List.mem_cons_self
    have hi := item_len x hx
    rw [List.length_cons] at hl
    have ih := put_go l (acc ++ itemL x) (fun y hy => h y (List.mem_cons_of_mem _ hy)) (by rw [List.length_append]; omega)
    refine Evn.bind (one_ev x hx) (Evn.pos rfl (Evn.pos (by rw [bl_size]; omega) ?_))
    refine Evn.val ?_ ih
    unfold rowL
    rw [List.map_cons, List.flatten_cons, List.append_assoc]
theorem put_ev (l : List Itm) (h : ∀ x ∈ l, okI x) (hl : l.length ≤ 4096) : Evn (fun k => quic_Put.f k l) (bl (rowL l), 0) :=
  Evn.pos hl (put_go l [] h (by show 0 + _ ≤ _; omega))
theorem ordB_all {α : Type} (P : α → Bool) (R : α → α → Bool) : ∀ (l : List α) (o : Option α), ordB P R o l = true → ∀ x ∈ l, P x = true
  | [], _, _, x, hx => by cases hx
  | y :: l, none, h, x, hx => by
    have h : (P y && ordB P R (some y) l) = true := h
    rw [Bool.and_eq_true] at h
    rcases List.mem_cons.1 hx with rfl | hx
    · exact h.1
    · exact ordB_all P R l (some y) h.2 x hx
  | y :: l, some z, h, x, hx => by
    have h : (P y && (R z y && ordB P R (some y) l)) = true := h
    rw [Bool.and_eq_true, Bool.and_eq_true] at h
    rcases List.mem_cons.1 hx with rfl | hx
    · exact h.1
    · exact ordB_all P R l (some y) h.2.2 x hx
def encA (x : Att) : List UInt8 := (encN x.f0.size ++ x.f0.data.toList) ++ textL x.f1.f0 x.f1.f1 x.f1.f2
def encAs (l : List Att) : List UInt8 := (l.map encA).flatten
def attrsT (l : List Att) : List UInt8 := encN l.length ++ encAs l
def attrB (l : List Att) : ByteArray := if checkA l = true then bl (attrsT l) else bl []
theorem valB_ok (n i : Int) (s : ByteArray) (h : valB n i s = true) : okV n i s := by
  by_cases hv : okV n i s
  · exact hv
  · have := check_no n i s hv
    rw [val_q, h] at this
    exact absurd (Option.some.inj this) (by decide)
theorem checkA_all (l : List Att) (h : checkA l = true) : (∀ x ∈ l, simpleB x.f0 = true ∧ okV x.f1.f0 x.f1.f1 x.f1.f2) ∧ l.length ≤ 24 := by
  unfold checkA at h
  rw [Bool.and_eq_true, decide_eq_true_eq] at h
  refine ⟨fun x hx => ?_, h.2⟩
  have h1 := ordB_all _ _ l none h.1 x hx
  unfold attX at h1
  rw [Bool.and_eq_true] at h1
  exact ⟨h1.1, valB_ok _ _ _ h1.2⟩
theorem textL_len (a0 a1 : Int) (a2 : ByteArray) (h : okV a0 a1 a2) : (textL a0 a1 a2).length ≤ 300 := by
  unfold textL
  have h1 := szOf_pos a0.toNat
  have h2 := szOf_pos (foldN a1)
  have h3 := szOf_pos a2.size
  rw [List.length_append, encN_len]
  unfold okV at h
  split
  · rw [encN_len]; omega
  split
  · show _ + 1 ≤ 300; omega
  · rw [List.length_append, encN_len, ← size_len]; omega
theorem vtext_ev (a0 a1 : Int) (a2 : ByteArray) (h : okV a0 a1 a2) : Evn (fun k => value_Text.f k a0 a1 a2) (bl (textL a0 a1 a2)) := Evn.of 20 (fun k hk => by
  have := vtext_q a0 a1 a2 h (k - 20)
  rw [show k - 20 + 20 = k by omega] at this; exact this)
theorem attr_go : ∀ (l : List Att) (acc : List UInt8), (∀ x ∈ l, okV x.f1.f0 x.f1.f1 x.f1.f2) → (∀ x ∈ l, x.f0.size < 20000) → acc.length + 21000 * l.length ≤ 140737488355328 → Evn (fun k => schema_AttrText.go k l acc) (bl (acc ++ encAs l))
  | [], acc, hv, hs, hl => by
    show Evn _ (bl (acc ++ []))
    rw [List.append_nil]
    exact Evn.ret _
  | x :: l, acc, hv, hs, hl => by
    have hx := hv x List.mem_cons_self
    have hsx := hs x List.mem_cons_self
    have ht := textL_len _ _ _ hx
    have hn := szOf_pos x.f0.size
    rw [List.length_cons] at hl
    have ih := attr_go l (acc ++ encA x) (fun y hy => hv y (List.mem_cons_of_mem _ hy)) (fun y hy => hs y (List.mem_cons_of_mem _ hy)) (by
      unfold encA
      rw [List.length_append, List.length_append, List.length_append, encN_len, ← size_len]; omega)
    have e : ((bl (encN x.f0.size) ++ x.f0) ++ bl (textL x.f1.f0 x.f1.f1 x.f1.f2)).data.toList = encA x := by
      rw [bl_appl, bl_app]; rfl
    refine Evn.bind (num_ev x.f0.size (by omega)) (Evn.bind (vtext_ev _ _ _ hx) (Evn.pos (by show acc.length + ((encN x.f0.size).length + x.f0.size + (textL x.f1.f0 x.f1.f1 x.f1.f2).length) ≤ _; rw [encN_len]; omega) ?_))
    rw [e]
    refine Evn.val ?_ ih
    show bl (acc ++ encA x ++ encAs l) = bl (acc ++ (encA x ++ encAs l))
    rw [List.append_assoc]
theorem attrText_q (l : List Att) (hs : ∀ x ∈ l, x.f0.size < 20000) (hl : l.length < 100000) : Evn (fun k => schema_AttrText.f k l) (attrB l) := by
  unfold attrB
  refine Evn.bind (attrs_q l hs hl) ?_
  by_cases h : checkA l = true
  · obtain ⟨ha, h24⟩ := checkA_all l h
    have hn := szOf_pos l.length
    rw [if_pos h]
    exact Evn.pos h (Evn.bind (num_ev l.length (by omega)) (Evn.pos (by rw [bl_size, encN_len]; omega) (attr_go l (encN l.length) (fun x hx => (ha x hx).2) hs (by rw [encN_len]; omega))))
  · rw [if_neg h]
    exact Evn.neg h (Evn.ret _)
theorem attrB_len (l : List Att) (hs : ∀ x ∈ l, x.f0.size < 20000) (h : checkA l = true) : (attrsT l).length ≤ 1000000 := by
  obtain ⟨ha, h24⟩ := checkA_all l h
  have hn := szOf_pos l.length
  have key : ∀ m : List Att, (∀ x ∈ m, x ∈ l) → (encAs m).length ≤ 21000 * m.length := by
    intro m
    induction m with
    | nil => intro _; exact Nat.le_refl _
    | cons x m ih =>
      intro hm
      have h1 := ih (fun y hy => hm y (List.mem_cons_of_mem _ hy))
      have h2 := textL_len _ _ _ (ha x (hm x List.mem_cons_self)).2
      have h3 := hs x (hm x List.mem_cons_self)
      have h4 := szOf_pos x.f0.size
      have e : encAs (x :: m) = encA x ++ encAs m := rfl
      rw [e, List.length_append, List.length_cons]
      unfold encA
      rw [List.length_append, List.length_append, encN_len, ← size_len]; omega
  have := key l (fun x hx => hx)
  unfold attrsT
  rw [List.length_append, encN_len]; omega
theorem show_q (a0 a1 : Int) (a2 : ByteArray) (h : okV a0 a1 a2) (k : Nat) (hk : 300 ≤ k) : value_Show.f k a0 a1 a2 = some ⟨(showL a0 a1 a2).toArray⟩ := by
  unfold value_Show.f showL
  rw [check_ok _ _ _ h, Option.bind_some, if_pos rfl]
  rcases h with ⟨rfl, h1, h2, h3⟩ | ⟨rfl, rfl, h1, h2⟩ | ⟨rfl, h1, h2⟩ | ⟨rfl, rfl, h1⟩
  · rw [if_pos rfl, if_pos rfl, strconv_Itoa.f, if_pos (by omega), Option.bind_some]
  · rw [if_neg (by omega), if_pos rfl, if_neg (by omega), if_pos rfl, quoted_q a2 (by omega) h2, Option.bind_some]
  · rw [if_neg (by omega), if_neg (by omega), if_pos rfl, if_neg (by omega), if_neg (by omega), if_pos rfl]
    rcases h1 with rfl | rfl <;> rfl
  · rw [if_neg (by omega), if_neg (by omega), if_neg (by omega), if_neg (by omega), if_neg (by omega), if_neg (by omega), hexed_q a2 (by omega) k (by omega), Option.bind_some]
    rfl
theorem pre_app (s p : ByteArray) (r : List UInt8) (h : s.data.toList = p.data.toList ++ r) : preB s p = true := by
  rw [pre_iff]
  refine ⟨?_, ?_⟩
  · rw [size_len, size_len, h, List.length_append]; omega
  · rw [h, size_len, List.take_left]
end Go.Proofs.YtkdndabpaajkaaaGreatDoor.U8
namespace Go.Proofs.YtkdndabpaajkaaaGreatDoor.Pure
open Go.RowKit Go.Proofs.YtkdndabpaajkaaaGreatDoor.A Go.Proofs.YtkdndabpaajkaaaGreatDoor.U8 Go.Proofs.YtkdndabpaajkaaaGreatDoorW.PrintWords Go.Proofs.YtkdndabpaajkaaaGreatDoorW.PrintLast Go.Lib
set_option linter.unusedSimpArgs false
set_option linter.unusedVariables false
theorem escL_le : ∀ cs : List Nat, (∀ c ∈ cs, okC c) → (escL cs).length ≤ 8 * (encL cs).length
  | [], h => Nat.le_refl _
  | c :: cs, h => by
    have ih := escL_le cs (fun x hx => h x (List.mem_cons_of_mem _ hx))
    have hp := enc_pos c
    rw [escL, encL, List.length_append, List.length_append]
    by_cases hc : isCtl (c : Int) = true
    · have hr := isCtl_lt _ hc
      have h6 := (ctl_size (escB (c : Int)) c (by
        have := ctl_of (escB (c : Int)) (c : Int) hc (pre_app _ _ [] (by rw [List.append_nil]))
        rwa [Int.toNat_natCast] at this)).2.1
      rw [size_len] at h6
      omega
    · rw [(escB_pl c (h c (List.mem_cons_self ..)) hc).1]; omega
end Go.Proofs.YtkdndabpaajkaaaGreatDoor.Pure
namespace Go.Proofs.YtkdndabpaajkaaaGreatDoor.U8
open Go.RowKit Go.Proofs.YtkdndabpaajkaaaGreatDoor.A Go.Proofs.YtkdndabpaajkaaaGreatDoorW.PrintWords Go.Proofs.YtkdndabpaajkaaaGreatDoorW.PrintLast Go.Lib
set_option linter.unusedVariables false
set_option linter.unusedSimpArgs false
theorem showV_le (a0 a1 : Int) (a2 : ByteArray) (h : okV a0 a1 a2) : (showL a0 a1 a2).length ≤ 2000 := by
  unfold showL
  rcases h with ⟨rfl, h1, h2, h3⟩ | ⟨rfl, rfl, h1, h2⟩ | ⟨rfl, h1, h2⟩ | ⟨rfl, rfl, h1⟩
  · rw [if_pos rfl]
    by_cases c : a1 < 0
    · have := dd_le a1.natAbs (by omega)
      rw [itoa_neg' _ c, List.length_cons]; omega
    · have := dd_le a1.toNat (by omega)
      rw [itoa_pos' _ c]; omega
  · rw [if_neg (by omega), if_pos rfl]
    obtain ⟨v1, v2⟩ := valid_runes a2 h2
    have := Pure.escL_le _ v2
    rw [v1, ← size_len] at this
    rw [List.length_cons, List.length_append]
    show _ + 1 + 1 ≤ 2000
    omega
  · rw [if_neg (by omega), if_neg (by omega), if_pos rfl]
    rcases h1 with rfl | rfl
    · show 5 ≤ 2000; omega
    · show 4 ≤ 2000; omega
  · rw [if_neg (by omega), if_neg (by omega), if_neg (by omega)]
    unfold Go.Lib.bytesOf
    rw [List.length_map, List.length_append, List.length_append, hexL_len, ← size_len]
    show 2 + _ + 1 ≤ 2000
    omega
def checkE (n0 n1 n2 : Int) (ty : ByteArray) (l : List Att) : Bool := okId n0 n1 n2 && (decide (checkN ty = 0) && checkA l)
theorem checkE_iff (n0 n1 n2 : Int) (ty : ByteArray) (l : List Att) : checkE n0 n1 n2 ty l = true ↔ okId n0 n1 n2 = true ∧ checkN ty = 0 ∧ checkA l = true := by
  unfold checkE
  rw [Bool.and_eq_true, Bool.and_eq_true, decide_eq_true_eq]
theorem checkE_ev (n0 n1 n2 : Int) (ty : ByteArray) (l : List Att) (ht : ty.size < 20000) (hs : ∀ x ∈ l, x.f0.size < 20000) (hl : l.length < 100000) : Evn (fun k => event_Check.f k n0 n1 n2 ty l) (checkE n0 n1 n2 ty l) := by
  unfold checkE
  refine Evn.bc (isid_q n0 n1 n2) ?_
  cases okId n0 n1 n2 with
  | false => exact Evn.neg (by decide) (Evn.ret _)
  | true =>
    refine Evn.pos rfl (Evn.bind (u := checkN ty) (Evn.of1 (fun k => check_name ty (by omega) k)) ?_)
    by_cases h : checkN ty = 0
    · refine Evn.pos h (Evn.bind (attrs_q l hs hl) ?_)
      rw [decide_eq_true h]
      exact Evn.ret _
    · rw [decide_eq_false h]
      exact Evn.neg h (Evn.ret _)
def lineE (x : Att) : List UInt8 := 32 :: (x.f0.data.toList ++ 61 :: showL x.f1.f0 x.f1.f1 x.f1.f2)
def linesE (l : List Att) : List UInt8 := (l.map lineE).flatten
def evL (n0 n1 n2 : Int) (ty : ByteArray) (l : List Att) : List UInt8 := idL n0 n1 n2 ++ 32 :: (ty.data.toList ++ linesE l)
def showE (n0 n1 n2 : Int) (ty : ByteArray) (l : List Att) : ByteArray := if checkE n0 n1 n2 ty l = true then bl (evL n0 n1 n2 ty l) else bl []
theorem showV_ev (a0 a1 : Int) (a2 : ByteArray) (h : okV a0 a1 a2) : Evn (fun k => value_Show.f k a0 a1 a2) (bl (showL a0 a1 a2)) := Evn.of 300 (fun k hk => show_q a0 a1 a2 h k hk)
theorem show_go : ∀ (l : List Att) (acc : List UInt8), (∀ x ∈ l, okV x.f1.f0 x.f1.f1 x.f1.f2) → (∀ x ∈ l, x.f0.size < 20000) → acc.length + 23000 * l.length ≤ 140737488355328 → Evn (fun k => event_Show.go k l acc) (bl (acc ++ linesE l))
  | [], acc, _, _, _ => by
    have e : acc ++ linesE [] = acc := List.append_nil _
    rw [e]
    exact Evn.ret _
  | x :: l, acc, ho, hs, hl => by
    have h2 := hs x List.mem_cons_self
    have h3 := showV_le _ _ _ (ho x List.mem_cons_self)
    have hl' : acc.length + 23000 * (l.length + 1) ≤ 140737488355328 := hl
    have e : acc ++ linesE (x :: l) = (acc ++ lineE x) ++ linesE l := by rw [List.append_assoc]; rfl
    have e2 : ((((⟨#[32]⟩ : ByteArray) ++ x.f0) ++ (⟨#[61]⟩ : ByteArray)) ++ bl (showL x.f1.f0 x.f1.f1 x.f1.f2)).data.toList = lineE x := by
      rw [ByteArray.data_append, ByteArray.data_append, ByteArray.data_append, Array.toList_append, Array.toList_append, Array.toList_append]
      show (([32] ++ x.f0.data.toList) ++ [61]) ++ showL x.f1.f0 x.f1.f1 x.f1.f2 = _
      unfold lineE
      rw [List.append_assoc, List.append_assoc]; rfl
    have e3 : (lineE x).length = x.f0.size + (showL x.f1.f0 x.f1.f1 x.f1.f2).length + 2 := by
      unfold lineE
      rw [List.length_cons, List.length_append, List.length_cons, ← size_len]; omega
    rw [e]
    have ih := show_go l (acc ++ lineE x) (fun y hy => ho y (List.mem_cons_of_mem _ hy)) (fun y hy => hs y (List.mem_cons_of_mem _ hy)) (by rw [List.length_append, e3]; omega)
    refine Evn.bind (showV_ev _ _ _ (ho x List.mem_cons_self)) (Evn.pos (by have hb : (bl (showL x.f1.f0 x.f1.f1 x.f1.f2)).size = (showL x.f1.f0 x.f1.f1 x.f1.f2).length := bl_size _; omega) ?_)
    rw [e2]
    exact ih
theorem showE_ev (n0 n1 n2 : Int) (ty : ByteArray) (l : List Att) (ht : ty.size < 20000) (hs : ∀ x ∈ l, x.f0.size < 20000) (hl : l.length < 100000) : Evn (fun k => event_Show.f k n0 n1 n2 ty l) (showE n0 n1 n2 ty l) := by
  refine Evn.bind (checkE_ev n0 n1 n2 ty l ht hs hl) ?_
  unfold showE
  by_cases h : checkE n0 n1 n2 ty l = true
  · obtain ⟨h1, h2, h3⟩ := (checkE_iff ..).1 h
    obtain ⟨l1, l2⟩ := idL_len _ _ _ h1
    obtain ⟨ha, h24⟩ := checkA_all l h3
    have e : showId n0 n1 n2 = bl (idL n0 n1 n2) := by unfold showId; rw [if_pos h1]
    rw [if_pos h]
    refine Evn.pos h (Evn.bc (showId_q _ _ _) (Evn.pos (by have hb : (bl (idL n0 n1 n2)).size = (idL n0 n1 n2).length := bl_size _; rw [e]; omega) ?_))
    have e2 : ((showId n0 n1 n2 ++ (⟨#[32]⟩ : ByteArray)) ++ ty).data.toList = (idL n0 n1 n2 ++ [32]) ++ ty.data.toList := by
      rw [e, ByteArray.data_append, ByteArray.data_append, Array.toList_append, Array.toList_append]; try rfl
    have e3 : evL n0 n1 n2 ty l = ((idL n0 n1 n2 ++ [32]) ++ ty.data.toList) ++ linesE l := by
      unfold evL
      rw [List.append_assoc, List.append_assoc]; rfl
    rw [e2, e3]
    exact show_go l _ (fun x hx => (ha x hx).2) hs (by
      have l3 : ([32] : List UInt8).length = 1 := rfl
      rw [List.length_append, List.length_append, l3, ← size_len]; omega)
  · rw [if_neg h]
    exact Evn.neg h (Evn.ret _)
def itemsE (n0 n1 n2 : Int) (ty : ByteArray) : List Itm := [⟨1, n0, ⟨#[]⟩⟩, ⟨1, n1, ⟨#[]⟩⟩, ⟨1, n2, ⟨#[]⟩⟩, ⟨4, 0, ty⟩]
def textEL (n0 n1 n2 : Int) (ty : ByteArray) (l : List Att) : List UInt8 := rowL (itemsE n0 n1 n2 ty) ++ attrsT l
def textE (n0 n1 n2 : Int) (ty : ByteArray) (l : List Att) : ByteArray := if checkE n0 n1 n2 ty l = true then bl (textEL n0 n1 n2 ty l) else bl []
theorem itemsE_ok (n0 n1 n2 : Int) (ty : ByteArray) (h : okId n0 n1 n2 = true) (ht : ty.size ≤ 65536) : ∀ x ∈ itemsE n0 n1 n2 ty, okI x := by
  obtain ⟨h1, h2, h3, h4⟩ := (okId_iff ..).1 h
  intro x hx
  unfold itemsE at hx
  rcases List.mem_cons.1 hx with rfl | hx
  · exact .inl ⟨rfl, by show 0 ≤ n0; omega, by show n0 ≤ _; omega, rfl⟩
  rcases List.mem_cons.1 hx with rfl | hx
  · exact .inl ⟨rfl, by show 0 ≤ n1; omega, by show n1 ≤ _; omega, rfl⟩
  rcases List.mem_cons.1 hx with rfl | hx
  · exact .inl ⟨rfl, by show 0 ≤ n2; omega, by show n2 ≤ _; omega, rfl⟩
  · rw [List.mem_singleton.1 hx]
    exact .inr (.inr ⟨rfl, rfl, ht⟩)
theorem itemsE_len (n0 n1 n2 : Int) (ty : ByteArray) : (rowL (itemsE n0 n1 n2 ty)).length ≤ 32 + ty.size := by
  have e : rowL (itemsE n0 n1 n2 ty) = encN n0.toNat ++ (encN n1.toNat ++ (encN n2.toNat ++ ((encN ty.size ++ ty.data.toList) ++ []))) := rfl
  have a := szOf_pos n0.toNat
  have b := szOf_pos n1.toNat
  have c := szOf_pos n2.toNat
  have d := szOf_pos ty.size
  rw [e, List.length_append, List.length_append, List.length_append, List.length_append, List.length_append, encN_len, encN_len, encN_len, encN_len, ← size_len]
  show _ + (_ + (_ + (_ + 0))) ≤ _
  omega
theorem textE_ev (n0 n1 n2 : Int) (ty : ByteArray) (l : List Att) (ht : ty.size < 20000) (hs : ∀ x ∈ l, x.f0.size < 20000) (hl : l.length < 100000) : Evn (fun k => event_Text.f k n0 n1 n2 ty l) (textE n0 n1 n2 ty l) := by
  refine Evn.bind (checkE_ev n0 n1 n2 ty l ht hs hl) ?_
  unfold textE
  by_cases h : checkE n0 n1 n2 ty l = true
  · obtain ⟨h1, h2, h3⟩ := (checkE_iff ..).1 h
    have hb := attrB_len l hs h3
    have ha : attrB l = bl (attrsT l) := by unfold attrB; rw [if_pos h3]
    have hr := itemsE_len n0 n1 n2 ty
    rw [if_pos h]
    refine Evn.pos h (Evn.bind (put_ev (itemsE n0 n1 n2 ty) (itemsE_ok _ _ _ _ h1 (by omega)) (by show 4 ≤ 4096; omega)) (Evn.bind (attrText_q l hs hl) ?_))
    rw [ha]
    refine Evn.pos (by show (rowL (itemsE n0 n1 n2 ty)).length + (attrsT l).length ≤ _; omega) (Evn.con ?_)
    show some (bl _ ++ bl _) = _
    rw [bl_app]; rfl
  · rw [if_neg h]
    exact Evn.neg h (Evn.ret _)
def sameB (a b : ByteArray) : Bool := (foldB a).toList == (foldB b).toList
theorem nameSame_q (a b : ByteArray) (ha : a.size < 90000) (hb : b.size < 90000) : name_Same.f a b = some (sameB a b) := by
  unfold name_Same.f
  rw [fold_q a (by omega), Option.bind_some, fold_q b (by omega), Option.bind_some]; rfl
theorem getD2 {α γ : Type} (pre : List γ) (x : γ) (post : List γ) (z : γ) (pre' : List α) (h : pre'.length = pre.length) : (pre ++ x :: post).getD ((pre'.length : Int)).toNat z = x := by
  rw [h]; exact getDp pre x post z
def neV (x y : Att) : Bool := !(x.f1.f0 == y.f1.f0) || (!(x.f1.f1 == y.f1.f1) || (!((x.f1.f2.toList) == (y.f1.f2.toList))))
def neA (x y : Att) : Bool := !((x.f0.toList) == (y.f0.toList)) || neV x y
def eqL : List Att → List Att → Bool
  | x :: p, y :: q => if neA x y = true then false else eqL p q
  | _, _ => true
theorem eqQ_l0 : ∀ (p q pre pre' : List Att), pre'.length = pre.length → p.length = q.length → (pre ++ p).length < 1000000 →
    Evn (fun k => api_Attr_113.l0 k (pre ++ p) (pre' ++ q) ((pre ++ p).length : Int) (pre.length : Int)) (eqL p q)
  | [], [], pre, pre', h, hp, hb => Evn.step (fun k => api_Attr_113.l0.eq_2 ..) (Evn.neg (nltp pre) (Evn.ret _))
  | [], y :: q, pre, pre', h, hp, hb => by cases hp
  | x :: p, [], pre, pre', h, hp, hb => by cases hp
  | x :: p, y :: q, pre, pre', h, hp, hb => by
    have hlt := ltp pre x p
    have hlt' := ltp pre' y q
    have hw := w1p pre x (by rw [List.length_append] at hb; omega)
    have g1 : ∀ z : Att, (pre ++ x :: p).getD ((pre.length : Int)).toNat z = x := fun z => getDp pre x p z
    have g2 : ∀ z : Att, (pre' ++ y :: q).getD ((pre.length : Int)).toNat z = y := fun z => getD2 pre' y q z pre h.symm
    have ih := eqQ_l0 p q (pre ++ [x]) (pre' ++ [y]) (by rw [snocLen, snocLen, h]) (by simpa using hp) (by rw [List.append_assoc]; exact hb)
    rw [List.append_assoc, List.append_assoc] at ih
    refine Evn.step (fun k => api_Attr_113.l0.eq_2 ..) (Evn.pos hlt (Evn.pos (Int.natCast_nonneg _) (Evn.pos hlt (Evn.pos (by rw [← h]; exact hlt') ?_))))
    unfold rd_T76
    rw [g1, g2, hw, eqL]
    by_cases hn : neA x y = true
    · rw [if_pos hn]
      exact Evn.pos hn (Evn.ret _)
    · rw [if_neg hn]
      exact Evn.neg hn ih
def eqB (l m : List Att) : Bool := if l.length = m.length then eqL l m else false
theorem eqQ_ev (l m : List Att) (hl : l.length < 1000000) : Evn (fun k => api_Attr_113.f k l m) (eqB l m) := by
  unfold eqB
  by_cases h : l.length = m.length
  · rw [if_pos h]
    exact Evn.pos (by omega) (eqQ_l0 l m [] [] rfl h hl)
  · rw [if_neg h]
    exact Evn.neg (by omega) (Evn.ret _)
theorem rdM (pre : List Att) (x : Att) (post : List Att) (z : AttR) (n : Int) (h : n = (pre.length : Int)) : ((pre ++ x :: post).map toAR).getD n.toNat z = toAR x := by
  rw [h]; exact getDm toAR pre x post z
theorem eqR_l0 : ∀ (p q pre pre' : List Att), pre'.length = pre.length → p.length = q.length → (pre ++ p).length < 1000000 →
    Evn (fun k => R04_SameAttrs.l0 k ((pre ++ p).map toAR) ((pre' ++ q).map toAR) (pre.length : Int)) (eqL p q)
  | [], [], pre, pre', h, hp, hb => Evn.step (fun k => R04_SameAttrs.l0.eq_2 ..) (Evn.neg (by rw [List.length_map]; exact nltp pre) (Evn.ret _))
  | [], y :: q, pre, pre', h, hp, hb => by cases hp
  | x :: p, [], pre, pre', h, hp, hb => by cases hp
  | x :: p, y :: q, pre, pre', h, hp, hb => by
    have hlt := ltp pre x p
    have hlt' := ltp pre' y q
    have hw := w1p pre x (by rw [List.length_append] at hb; omega)
    have g1 : ∀ z : AttR, ((pre ++ x :: p).map toAR).getD ((pre.length : Int)).toNat z = toAR x := fun z => rdM pre x p z _ rfl
    have g2 : ∀ z : AttR, ((pre' ++ y :: q).map toAR).getD ((pre.length : Int)).toNat z = toAR y := fun z => rdM pre' y q z _ (by rw [h])
    have ih := eqR_l0 p q (pre ++ [x]) (pre' ++ [y]) (by rw [snocLen, snocLen, h]) (by simpa using hp) (by rw [List.append_assoc]; exact hb)
    rw [List.append_assoc, List.append_assoc] at ih
    refine Evn.step (fun k => R04_SameAttrs.l0.eq_2 ..) (Evn.pos (by rw [List.length_map]; exact hlt) (Evn.pos (Int.natCast_nonneg _) (Evn.pos (by rw [List.length_map, ← h]; exact hlt') ?_)))
    unfold rd_T140
    rw [g1, g2, hw, eqL]
    by_cases hn : neA x y = true
    · rw [if_pos hn]
      exact Evn.pos hn (Evn.ret _)
    · rw [if_neg hn]
      exact Evn.neg hn ih
theorem eqR_ev (l m : List Att) (hl : l.length < 1000000) : Evn (fun k => R04_SameAttrs.f k (l.map toAR) (m.map toAR)) (eqB l m) := by
  unfold eqB
  by_cases h : l.length = m.length
  · rw [if_pos h]
    exact Evn.pos (by rw [List.length_map, List.length_map]; omega) (eqR_l0 l m [] [] rfl h hl)
  · rw [if_neg h]
    exact Evn.neg (by rw [List.length_map, List.length_map]; omega) (Evn.ret _)
def sameE (a0 a1 a2 : Int) (a3 : ByteArray) (l : List Att) (b0 b1 b2 : Int) (b3 : ByteArray) (m : List Att) : Bool :=
  if (a0 == b0 && (a1 == b1 && (a2 == b2))) = true then (if a3.toList = b3.toList then eqB l m else false) else false
theorem sameE_q (a0 a1 a2 : Int) (a3 : ByteArray) (l : List Att) (b0 b1 b2 : Int) (b3 : ByteArray) (m : List Att) (hl : l.length < 1000000) : Evn (fun k => event_Same.f k a0 a1 a2 a3 l b0 b1 b2 b3 m) (sameE a0 a1 a2 a3 l b0 b1 b2 b3 m) := by
  unfold sameE
  by_cases h : (a0 == b0 && (a1 == b1 && (a2 == b2))) = true
  · rw [if_pos h]
    by_cases h2 : a3.toList = b3.toList
    · rw [if_pos h2]
      exact Evn.pos h (Evn.pos h2 (Evn.bind (eqQ_ev l m hl) (Evn.ret _)))
    · rw [if_neg h2]
      exact Evn.pos h (Evn.neg h2 (Evn.ret _))
  · rw [if_neg h]
    exact Evn.neg h (Evn.ret _)
theorem sameE_r (a0 a1 a2 : Int) (a3 : ByteArray) (l : List Att) (b0 b1 b2 : Int) (b3 : ByteArray) (m : List Att) (hl : l.length < 1000000) : Evn (fun k => R06_Same.f k a0 a1 a2 a3 (l.map toAR) b0 b1 b2 b3 (m.map toAR)) (sameE a0 a1 a2 a3 l b0 b1 b2 b3 m) := by
  unfold sameE
  by_cases h : (a0 == b0 && (a1 == b1 && (a2 == b2))) = true
  · rw [if_pos h]
    by_cases h2 : a3.toList = b3.toList
    · rw [if_pos h2]
      exact Evn.pos h (Evn.pos h2 (Evn.bind (eqR_ev l m hl) (Evn.ret _)))
    · rw [if_neg h2]
      exact Evn.pos h (Evn.neg h2 (Evn.ret _))
  · rw [if_neg h]
    exact Evn.neg h (Evn.ret _)
def alikeL : List Att → List Att → Bool
  | x :: p, y :: q => if sameB x.f0 y.f0 = true then (if neV x y = true then false else alikeL p q) else false
  | _, _ => true
def alikeE (a3 : ByteArray) (l : List Att) (b3 : ByteArray) (m : List Att) : Bool := if sameB a3 b3 = true then (if l.length = m.length then alikeL l m else false) else false
theorem one_q (x y : Att) (hx : x.f0.size < 20000) (hy : y.f0.size < 20000) : event_Alike.one x y = some (if sameB x.f0 y.f0 = true then !neV x y else false) := by
  unfold event_Alike.one
  rw [nameSame_q x.f0 y.f0 (by omega) (by omega), Option.bind_some]
  by_cases h : sameB x.f0 y.f0 = true
  · rw [if_pos h, if_pos h]
    unfold neV
    rw [Bool.not_or, Bool.not_or, Bool.not_not, Bool.not_not, Bool.not_not]
  · rw [if_neg h, if_neg h]
theorem allK_q : ∀ (p q : List Att), p.length = q.length → (∀ x ∈ p, x.f0.size < 20000) → (∀ x ∈ q, x.f0.size < 20000) → allK event_Alike.one p q = some (alikeL p q)
  | [], [], h, _, _ => rfl
  | [], y :: q, h, _, _ => by cases h
  | x :: p, [], h, _, _ => by cases h
  | x :: p, y :: q, h, hp, hq => by
    have ih := allK_q p q (by simpa using h) (fun z hz => hp z (List.mem_cons_of_mem _ hz)) (fun z hz => hq z (List.mem_cons_of_mem _ hz))
    rw [allK, one_q x y (hp x List.mem_cons_self) (hq y List.mem_cons_self), Option.bind_some, alikeL]
    by_cases h1 : sameB x.f0 y.f0 = true
    · rw [if_pos h1, if_pos h1]
      by_cases h2 : neV x y = true
      · rw [if_pos h2, h2, if_neg (by decide)]
      · rw [if_neg h2, Bool.eq_false_iff.2 h2, if_pos (by decide)]
        exact ih
    · rw [if_neg h1, if_neg h1, if_neg (by decide)]
theorem alikeE_q (a0 a1 a2 : Int) (a3 : ByteArray) (l : List Att) (b0 b1 b2 : Int) (b3 : ByteArray) (m : List Att) (ha : a3.size < 20000) (hb : b3.size < 20000) (hl : ∀ x ∈ l, x.f0.size < 20000) (hm : ∀ x ∈ m, x.f0.size < 20000) :
    event_Alike.f a0 a1 a2 a3 l b0 b1 b2 b3 m = some (alikeE a3 l b3 m) := by
  unfold event_Alike.f alikeE
  rw [nameSame_q a3 b3 (by omega) (by omega), Option.bind_some]
  by_cases h : sameB a3 b3 = true
  · rw [if_pos h, if_pos h]
    by_cases h2 : l.length = m.length
    · rw [if_pos h2, if_pos h2, allK_q l m h2 hl hm]
    · rw [if_neg h2, if_neg h2]
  · rw [if_neg h, if_neg h]
theorem alike5 (a b : ByteArray) (ha : a.size < 20000) (hb : b.size < 20000) : Evn (fun k => R05_Alike.f k a b) (sameB a b) := Evn.of (2 * a.size + 20 + (2 * b.size + 20)) (fun k hk => by
  unfold R05_Alike.f
  rw [fold_r a (by omega) k (by omega), Option.bind_some, fold_r b (by omega) k (by omega), Option.bind_some]; rfl)
theorem alikeR_l0 (a0 a1 a2 : Int) (a3 : ByteArray) (b0 b1 b2 : Int) (b3 : ByteArray) : ∀ (p q pre pre' : List Att), pre'.length = pre.length → p.length = q.length → (pre ++ p).length < 1000000 → (∀ x ∈ p, x.f0.size < 20000) → (∀ x ∈ q, x.f0.size < 20000) →
    Evn (fun k => R06_Alike.l0 k (pre.length : Int) a0 a1 a2 a3 ((pre ++ p).map toAR) b0 b1 b2 b3 ((pre' ++ q).map toAR)) (alikeL p q)
  | [], [], pre, pre', h, hp, hb, _, _ => Evn.step (fun k => R06_Alike.l0.eq_2 ..) (Evn.neg (by rw [List.length_map]; exact nltp pre) (Evn.ret _))
  | [], y :: q, pre, pre', h, hp, hb, _, _ => by cases hp
  | x :: p, [], pre, pre', h, hp, hb, _, _ => by cases hp
  | x :: p, y :: q, pre, pre', h, hp, hb, hx, hy => by
    have hlt := ltp pre x p
    have hlt' := ltp pre' y q
    have hw := w1p pre x (by rw [List.length_append] at hb; omega)
    have g1 : ∀ z : AttR, ((pre ++ x :: p).map toAR).getD ((pre.length : Int)).toNat z = toAR x := fun z => rdM pre x p z _ rfl
    have g2 : ∀ z : AttR, ((pre' ++ y :: q).map toAR).getD ((pre.length : Int)).toNat z = toAR y := fun z => rdM pre' y q z _ (by rw [h])
    have ih := alikeR_l0 a0 a1 a2 a3 b0 b1 b2 b3 p q (pre ++ [x]) (pre' ++ [y]) (by rw [snocLen, snocLen, h]) (by simpa using hp) (by rw [List.append_assoc]; exact hb) (fun z hz => hx z (List.mem_cons_of_mem _ hz)) (fun z hz => hy z (List.mem_cons_of_mem _ hz))
    rw [List.append_assoc, List.append_assoc] at ih
    have hs := alike5 x.f0 y.f0 (hx x List.mem_cons_self) (hy y List.mem_cons_self)
    refine Evn.step (fun k => R06_Alike.l0.eq_2 ..) (Evn.pos (by rw [List.length_map]; exact hlt) (Evn.pos (Int.natCast_nonneg _) (Evn.pos (by rw [List.length_map, ← h]; exact hlt') ?_)))
    unfold rd_T140
    rw [g1, g2, hw, alikeL]
    refine Evn.bind hs ?_
    by_cases h1 : sameB x.f0 y.f0 = true
    · rw [if_pos h1]
      by_cases h2 : neV x y = true
      · rw [if_pos h2]
        exact Evn.pos h1 (Evn.pos h2 (Evn.ret _))
      · rw [if_neg h2]
        exact Evn.pos h1 (Evn.neg h2 ih)
    · rw [if_neg h1]
      exact Evn.neg h1 (Evn.ret _)
theorem alikeE_r (a0 a1 a2 : Int) (a3 : ByteArray) (l : List Att) (b0 b1 b2 : Int) (b3 : ByteArray) (m : List Att) (ha : a3.size < 20000) (hb : b3.size < 20000) (hll : l.length < 1000000) (hl : ∀ x ∈ l, x.f0.size < 20000) (hm : ∀ x ∈ m, x.f0.size < 20000) :
    Evn (fun k => R06_Alike.f k a0 a1 a2 a3 (l.map toAR) b0 b1 b2 b3 (m.map toAR)) (alikeE a3 l b3 m) := by
  have no : Evn (fun k => R06_Alike.j0 k true a0 a1 a2 a3 (l.map toAR) b0 b1 b2 b3 (m.map toAR)) false := Evn.step (fun k => R06_Alike.j0.eq_2 ..) (Evn.pos rfl (Evn.ret _))
  unfold alikeE
  refine Evn.bind (alike5 a3 b3 ha hb) ?_
  by_cases h : sameB a3 b3 = true
  · rw [if_pos h]
    refine Evn.pos h ?_
    rw [List.length_map, List.length_map]
    by_cases h2 : l.length = m.length
    · rw [if_pos h2, show (((l.length : Nat) : Int) != ((m.length : Nat) : Int)) = false by rw [h2, bne_self_eq_false]]
      exact Evn.step (fun k => R06_Alike.j0.eq_2 ..) (Evn.neg (by decide) (alikeR_l0 a0 a1 a2 a3 b0 b1 b2 b3 l m [] [] rfl h2 hll hl hm))
    · rw [if_neg h2, show (((l.length : Nat) : Int) != ((m.length : Nat) : Int)) = true by rw [bne_iff_ne]; omega]
      exact no
  · rw [if_neg h]
    exact Evn.neg h no
theorem rsize (n : Nat) (h : n ≤ 4611686018427387903) (k : Nat) : R01_Size.f (k + 1) (n : Int) = some (szOf n : Int) := by
  unfold R01_Size.f szOf
  rw [if_neg (by omega), R01_Size.j0, if_neg (by simp; omega)]
  by_cases h1 : n < 64
  · rw [if_pos (by omega), if_pos h1]; rfl
  by_cases h2 : n < 16384
  · rw [if_neg (by omega), if_pos (by omega), if_neg h1, if_pos h2]; rfl
  by_cases h3 : n < 1073741824
  · rw [if_neg (by omega), if_neg (by omega), if_pos (by omega), if_neg h1, if_neg h2, if_pos h3]; rfl
  · rw [if_neg (by omega), if_neg (by omega), if_neg (by omega), if_neg h1, if_neg h2, if_neg h3]; rfl
theorem nstep (n sz : Nat) (h : n ≤ 4611686018427387903) (L : List Int) (hL : L.length < 100) (j : Nat) (hj : j ≤ 7) (P : Nat) (hP : P = 2 ^ (8 * j)) (J K : Int) (hJ : J = j) (hK : K = (j : Int) - 1) (k : Nat) :
    R01_Num.l0 (k + 1) (n : Int) (sz : Int) L J = R01_Num.l0 k (n : Int) (sz : Int) (L ++ [((n / P % 256 : Nat) : Int)]) K := by
  subst hJ hK
  have e : IntKind.u64.wrap (wrap64 (8 * (j : Int))) = ((8 * j : Nat) : Int) := by
    rw [w64 (by omega) (by omega), IntKind.wrap_u64]; omega
  have e2 : IntKind.u64.wrap (n : Int) = (n : Int) := by rw [IntKind.wrap_u64]; omega
  have e3 : shr .u64 (n : Int) ((8 * j : Nat) : Int) = ((n / P : Nat) : Int) := by
    unfold shr
    rw [Int.toNat_natCast, Nat.min_eq_left (by show 8 * j ≤ 64; omega), hP, Int.natCast_ediv]
    congr 1
  rw [R01_Num.l0, if_pos (by omega), e, if_pos (by omega), if_pos (by omega), e2, e3, w64 (by omega) (by omega), Int.natCast_emod]
  rfl
theorem rnum (n : Nat) (h : n ≤ 4611686018427387903) (k : Nat) : R01_Num.f (k + 12) (n : Int) = some (strOfNums (numB n)) := by
  unfold R01_Num.f
  rw [rsize n h (k + 11)]
  simp only [Option.bind_some]
  unfold szOf numB
  by_cases h1 : n < 64
  · rw [if_pos h1, if_pos h1, show wrap64 (((1 : Nat) : Int) - 1) = 0 by unfold wrap64; omega, nstep n 1 h [] (by decide) 0 (by decide) 1 (by decide) 0 (-1) rfl (by omega)]
    rw [R01_Num.l0, if_neg (by omega), if_neg (by omega), R01_Num.j1, if_neg (by omega), if_neg (by omega)]
    rw [show n / 1 % 256 = n by omega]; rfl
  by_cases h2 : n < 16384
  · rw [if_neg h1, if_neg h1, if_pos h2, if_pos h2, show wrap64 (((2 : Nat) : Int) - 1) = 1 by unfold wrap64; omega, nstep n 2 h [] (by decide) 1 (by decide) 256 (by decide) 1 0 rfl (by omega), nstep n 2 h _ (by simp) 0 (by decide) 1 (by decide) 0 (-1) rfl (by omega)]
    rw [R01_Num.l0, if_neg (by omega), if_pos (by omega), if_pos (by simp), R01_Num.j1, if_neg (by omega), if_neg (by omega)]
    have e : (((n / 256 % 256 : Nat) : Int) + 64) % 256 = ((n / 256 + 64 : Nat) : Int) := by omega
    show some (strOfNums [(((n / 256 % 256 : Nat) : Int) + 64) % 256, ((n / 1 % 256 : Nat) : Int)]) = _
    rw [e, show n / 1 % 256 = n % 256 by omega]
  by_cases h3 : n < 1073741824
  · rw [if_neg h1, if_neg h1, if_neg h2, if_neg h2, if_pos h3, if_pos h3, show wrap64 (((4 : Nat) : Int) - 1) = 3 by unfold wrap64; omega, nstep n 4 h [] (by decide) 3 (by decide) 16777216 (by decide) 3 2 rfl (by omega), nstep n 4 h _ (by simp) 2 (by decide) 65536 (by decide) 2 1 rfl (by omega), nstep n 4 h _ (by simp) 1 (by decide) 256 (by decide) 1 0 rfl (by omega), nstep n 4 h _ (by simp) 0 (by decide) 1 (by decide) 0 (-1) rfl (by omega)]
    rw [R01_Num.l0, if_neg (by omega), if_neg (by omega), R01_Num.j1, if_pos (by omega), if_pos (by simp)]
    have e : (((n / 16777216 % 256 : Nat) : Int) + 128) % 256 = ((n / 16777216 + 128 : Nat) : Int) := by omega
    simp only [Option.bind_some]
    rw [if_neg (by omega)]
    show some (strOfNums [(((n / 16777216 % 256 : Nat) : Int) + 128) % 256, ((n / 65536 % 256 : Nat) : Int), ((n / 256 % 256 : Nat) : Int), ((n / 1 % 256 : Nat) : Int)]) = _
    rw [e, show n / 1 % 256 = n % 256 by omega]
  · rw [if_neg h1, if_neg h1, if_neg h2, if_neg h2, if_neg h3, if_neg h3, show wrap64 (((8 : Nat) : Int) - 1) = 7 by unfold wrap64; omega, nstep n 8 h [] (by decide) 7 (by decide) 72057594037927936 (by decide) 7 6 rfl (by omega), nstep n 8 h _ (by simp) 6 (by decide) 281474976710656 (by decide) 6 5 rfl (by omega), nstep n 8 h _ (by simp) 5 (by decide) 1099511627776 (by decide) 5 4 rfl (by omega), nstep n 8 h _ (by simp) 4 (by decide) 4294967296 (by decide) 4 3 rfl (by omega), nstep n 8 h _ (by simp) 3 (by decide) 16777216 (by decide) 3 2 rfl (by omega), nstep n 8 h _ (by simp) 2 (by decide) 65536 (by decide) 2 1 rfl (by omega), nstep n 8 h _ (by simp) 1 (by decide) 256 (by decide) 1 0 rfl (by omega), nstep n 8 h _ (by simp) 0 (by decide) 1 (by decide) 0 (-1) rfl (by omega)]
    rw [R01_Num.l0, if_neg (by omega), if_neg (by omega), R01_Num.j1, if_neg (by omega), if_pos (by omega), if_pos (by simp)]
    have e : (((n / 72057594037927936 % 256 : Nat) : Int) + 192) % 256 = ((n / 72057594037927936 + 192 : Nat) : Int) := by omega
    show some (strOfNums [(((n / 72057594037927936 % 256 : Nat) : Int) + 192) % 256, ((n / 281474976710656 % 256 : Nat) : Int), ((n / 1099511627776 % 256 : Nat) : Int), ((n / 4294967296 % 256 : Nat) : Int), ((n / 16777216 % 256 : Nat) : Int), ((n / 65536 % 256 : Nat) : Int), ((n / 256 % 256 : Nat) : Int), ((n / 1 % 256 : Nat) : Int)]) = _
    rw [e, show n / 1 % 256 = n % 256 by omega]
end Go.Proofs.YtkdndabpaajkaaaGreatDoor.U8
namespace Go.Proofs.YtkdndabpaajkaaaGreatDoor.Pure
open Go.RowKit Go.Proofs.YtkdndabpaajkaaaGreatDoor.A Go.Proofs.YtkdndabpaajkaaaGreatDoor.U8 Go.Proofs.YtkdndabpaajkaaaGreatDoorW.PrintWords Go.Proofs.YtkdndabpaajkaaaGreatDoorW.PrintLast
set_option linter.unusedSimpArgs false
set_option maxRecDepth 100000 in
theorem check_ev (k : Nat) (hk : 206 ≤ k) (a0 a1 : Int) (a2 : ByteArray) : ∃ b, value_Check.f a0 a1 a2 = some b ∧ R03_Check.f k a0 a1 a2 = some b := by
  unfold value_Check.f R03_Check.f
  by_cases hs : (a2.size : Int) ≤ 200
  · rw [valid_ev a2 (by omega) k (by omega)]
    have : utf8_ValidString.f a2 = some (Go.Lib.validD a2.data.toList) := by
      unfold utf8_ValidString.f; rw [if_pos (by omega)]
    rw [this]
    simp only [Option.bind_some]
    repeat' split
    all_goals exact ⟨_, rfl, rfl⟩
  · simp only [hs, if_false]
    repeat' split
    all_goals exact ⟨_, rfl, rfl⟩
end Go.Proofs.YtkdndabpaajkaaaGreatDoor.Pure
namespace Go.Proofs.YtkdndabpaajkaaaGreatDoor.Pure
open Go.RowKit Go.Proofs.YtkdndabpaajkaaaGreatDoor.A Go.Proofs.YtkdndabpaajkaaaGreatDoor.U8 Go.Proofs.YtkdndabpaajkaaaGreatDoorW.PrintWords Go.Proofs.YtkdndabpaajkaaaGreatDoorW.PrintLast Go.Lib
set_option linter.unusedSimpArgs false
set_option linter.unusedVariables false
theorem td (a b : Nat) : Int.tdiv (a : Int) (b : Int) = ((a / b : Nat) : Int) := by
  rw [Int.tdiv_eq_ediv_of_nonneg (by omega)]; rfl
theorem tm (a b : Nat) : Int.tmod (a : Int) (b : Int) = ((a % b : Nat) : Int) := by
  rw [Int.tmod_eq_emod_of_nonneg (by omega)]; rfl
theorem dw (c b : Nat) (hb : 0 < b) (h : c ≤ 1114111) : wrap64 (Int.tdiv (c : Int) (b : Int)) = ((c / b : Nat) : Int) := by
  rw [td]
  have : c / b ≤ c := Nat.div_le_self c b
  generalize c / b = q at this
  rw [w64 (by omega) (by omega)]
theorem bytes_q (c : Nat) (h : okC c) : R02_Bytes.f (c : Int) = some ⟨(encodeRune (c : Int)).toArray⟩ := by
  have hc : c ≤ 1114111 := by unfold okC at h; omega
  unfold R02_Bytes.f
  rw [show wrap64 (Int.tdiv (c : Int) 64) = ((c / 64 : Nat) : Int) from dw c 64 (by decide) hc, show wrap64 (Int.tdiv (c : Int) 4096) = ((c / 4096 : Nat) : Int) from dw c 4096 (by decide) hc, show wrap64 (Int.tdiv (c : Int) 262144) = ((c / 262144 : Nat) : Int) from dw c 262144 (by decide) hc,
    show Int.tmod (c : Int) 64 = ((c % 64 : Nat) : Int) from tm c 64, show Int.tmod ((c / 64 : Nat) : Int) 64 = ((c / 64 % 64 : Nat) : Int) from tm (c / 64) 64, show Int.tmod ((c / 4096 : Nat) : Int) 64 = ((c / 4096 % 64 : Nat) : Int) from tm (c / 4096) 64]
  by_cases h1 : c < 128
  · rw [if_pos (by omega)]
    unfold encodeRune
    rw [encodeRuneZ_one (by omega) (by omega), show ((c : Int)) % 256 = c by omega]; rfl
  rw [if_neg (by omega)]
  have b2 : (128 + ((c % 64 : Nat) : Int)) % 256 = 128 + (c : Int) % 64 := by omega
  by_cases h2 : c < 2048
  · rw [if_pos (by omega)]
    unfold encodeRune
    rw [encodeRuneZ_two (by omega) (by omega), w64 (by omega) (by omega), w64 (by omega) (by omega), b2, show (192 + ((c / 64 : Nat) : Int)) % 256 = 192 + (c : Int) / 64 by omega]; rfl
  rw [if_neg (by omega)]
  have b3 : (128 + ((c / 64 % 64 : Nat) : Int)) % 256 = 128 + (c : Int) / 64 % 64 := by omega
  by_cases h3 : c < 65536
  · rw [if_pos (by omega)]
    unfold encodeRune
    rw [encodeRuneZ_three (by unfold okC at h; omega), w64 (by omega) (by omega), w64 (by omega) (by omega), w64 (by omega) (by omega), b2, b3, show (224 + ((c / 4096 : Nat) : Int)) % 256 = 224 + (c : Int) / 4096 by omega]; rfl
  · rw [if_neg (by omega)]
    unfold encodeRune
    rw [encodeRuneZ_four (by omega) (by omega), w64 (by omega) (by omega), w64 (by omega) (by omega), w64 (by omega) (by omega), w64 (by omega) (by omega), b2, b3, show (128 + ((c / 4096 % 64 : Nat) : Int)) % 256 = 128 + (c : Int) / 4096 % 64 by omega, show (240 + ((c / 262144 : Nat) : Int)) % 256 = 240 + (c : Int) / 262144 by omega]; rfl
theorem escape_q (c : Nat) (h : okC c) (k : Nat) : R03_escape.f (k + 8) (c : Int) = some (escB (c : Int)) := by
  by_cases h1 : c < 128
  · exact escape_r c h1 k
  have hn : ¬ isCtl (c : Int) = true := fun e => by have := isCtl_lt _ e; omega
  have hb := bytes_q c h
  have he : (⟨(encodeRune (c : Int)).toArray⟩ : ByteArray) = escB (c : Int) := baext (by rw [(escB_pl c h hn).1])
  rw [he] at hb
  unfold R03_escape.f
  rw [if_neg (by omega), if_neg (by omega), if_neg (by omega), if_neg (by omega), if_neg (by omega), if_pos (by omega), decide_eq_false (by omega), show k + 8 = k + 6 + 1 + 1 by omega, R03_escape.j0, if_neg (by decide), if_pos (by omega), if_neg (by omega), R03_escape.j1, beq_eq_false_iff_ne.2 (by omega), if_neg (by decide), hb]
  rfl
theorem nD_lt (u : Nat) (h : u < 9223372036854775807) : nDigits u < 1000 := by
  have key : ∀ (m u : Nat), u < 10 ^ m → nDigits u ≤ m + 1 := by
    intro m
    induction m with
    | zero => intro u h; rw [nDigits_small (by omega)]; omega
    | succ m ih =>
      intro u h
      by_cases h10 : u < 10
      · rw [nDigits_small h10]; omega
      · have hp : 10 ^ (m + 1) = 10 * 10 ^ m := by rw [Nat.pow_succ, Nat.mul_comm]
        rw [nDigits_big h10]
        have := ih (u / 10) (by omega)
        omega
  have := key 19 u (Nat.lt_trans h (by decide))
  omega
theorem digits_q (k : Nat) : ∀ (m u : Nat), u < 10 ^ (m + 1) → u < 9223372036854775807 → R03_Digits.f (k + m + 1) (u : Int) = some ⟨(decDigits u).toArray⟩
  | 0, u, h, hu => by
    have hm := tm u 10
    have hu10 : u < 10 := by simpa using h
    rw [R03_Digits.f, show (10 : Int) = ((10 : Nat) : Int) from rfl, hm, Option.bind_some, if_pos (by omega), w64 (by omega) (by omega), decDigits, dif_pos hu10, Nat.mod_eq_of_lt hu10, show (48 + (u : Int)) % 256 = ((48 + u : Nat) : Int) by omega]
    rfl
  | m + 1, u, h, hu => by
    have hm := tm u 10
    have hd := td u 10
    rw [show k + (m + 1) + 1 = (k + m + 1) + 1 by omega, R03_Digits.f, show (10 : Int) = ((10 : Nat) : Int) from rfl, hm, hd, Option.bind_some, w64 (x := 48 + ((u % 10 : Nat) : Int)) (by omega) (by omega), w64 (x := ((u / 10 : Nat) : Int)) (by omega) (by omega), show (48 + ((u % 10 : Nat) : Int)) % 256 = ((48 + u % 10 : Nat) : Int) by omega]
    by_cases h10 : u < 10
    · rw [if_pos (by omega), show decDigits u = [UInt8.ofNat (48 + u)] from by rw [decDigits, dif_pos h10], Nat.mod_eq_of_lt h10]; rfl
    · have hp : 10 ^ (m + 1 + 1) = 10 * 10 ^ (m + 1) := by rw [Nat.pow_succ, Nat.mul_comm]
      have ih := digits_q k m (u / 10) (by omega) (by omega)
      have hl : (decDigits (u / 10)).length < 1000 := by
        rcases Nat.lt_or_ge (u / 10) 9007199254740992 with h | h
        · have := dd_le (u / 10) (by omega); omega
        · rw [decDigits_length]
          exact nD_lt (u / 10) (by omega)
      rw [if_neg (by omega), ih, Option.bind_some, if_pos (by show (⟨(decDigits (u / 10)).toArray⟩ : ByteArray).size + 1 ≤ _; rw [size_len]; show (decDigits (u / 10)).length + 1 ≤ _; omega), show decDigits u = decDigits (u / 10) ++ [UInt8.ofNat (48 + u % 10)] from by rw [decDigits, dif_neg h10]]
      exact congrArg some (baext (by rw [ByteArray.data_append, Array.toList_append]; rfl))
theorem runesF_len : ∀ (m : Nat) (l : List UInt8), (runesF m l).length ≤ m
  | 0, l => Nat.le_refl _
  | m + 1, l => by
    rw [runesF]
    split
    · exact Nat.zero_le _
    · split
      · exact Nat.zero_le _
      · rw [List.length_cons]; exact Nat.succ_le_succ (runesF_len m _)
theorem hexr (d : Int) (h0 : 0 ≤ d) (h1 : d < 16) : R03_Hex.f d = some ⟨(Go.Lib.bytesOf [hexd d]).toArray⟩ := by
  have all : ∀ n : Fin 16, R03_Hex.f (n.val : Int) = some ⟨(Go.Lib.bytesOf [hexd (n.val : Int)]).toArray⟩ := by decide +kernel
  have := all ⟨d.toNat, by omega⟩
  rwa [show ((⟨d.toNat, by omega⟩ : Fin 16).val : Int) = d by show ((d.toNat : Nat) : Int) = d; omega] at this
theorem bytesOf_app (x y : List Int) : Go.Lib.bytesOf (x ++ y) = Go.Lib.bytesOf x ++ Go.Lib.bytesOf y := List.map_append
theorem mk_app (a b : List UInt8) : (⟨a.toArray⟩ : ByteArray) ++ (⟨b.toArray⟩ : ByteArray) = ⟨(a ++ b).toArray⟩ := baext (by rw [ByteArray.data_append, Array.toList_append])
theorem mk_sz (a : List UInt8) : (⟨a.toArray⟩ : ByteArray).size = a.length := by rw [size_len]
theorem show_l0 (s : ByteArray) (hs : s.size ≤ 2000) (a b : Int) (k : Nat) : ∀ (m i : Nat) (acc : List UInt8), i + m = s.size → acc.length < 100000 - 2 * m →
    R03_Show.l0 (k + m + 1) ⟨acc.toArray⟩ (i : Int) a b s = some ⟨(acc ++ (Go.Lib.bytesOf (hexL (s.data.toList.drop i)) ++ [39])).toArray⟩
  | 0, i, acc, hi, ha => by
    rw [R03_Show.l0, if_neg (by omega), if_pos (by rw [mk_sz]; omega), List.drop_of_length_le (by rw [← size_len]; omega)]
    exact congrArg some (mk_app acc [39])
  | m + 1, i, acc, hi, ha => by
    obtain ⟨b8, e, hb⟩ := drop_byt s i (by omega)
    have hlt := b8.toNat_lt
    have hx := hexr ((b8.toNat : Int) / 16) (by omega) (by omega)
    have hy := hexr ((b8.toNat : Int) % 16) (by omega) (by omega)
    have q0 : bt s (i : Int) = (b8.toNat : Int) := by
      rw [bt_byt, Int.toNat_natCast]
      have := hb
      omega
    have hd : Int.tdiv (b8.toNat : Int) 16 = (b8.toNat : Int) / 16 := Int.tdiv_eq_ediv_of_nonneg (by omega)
    have hm : Int.tmod (b8.toNat : Int) 16 = (b8.toNat : Int) % 16 := Int.tmod_eq_emod_of_nonneg (by omega)
    rw [show k + (m + 1) + 1 = (k + m + 1) + 1 by omega, R03_Show.l0, if_pos (by omega), if_pos (by omega), q0, w64 (x := (b8.toNat : Int)) (by omega) (by omega), hd, hm, w64 (x := (b8.toNat : Int) / 16) (by omega) (by omega), hx, Option.bind_some, if_pos (by rw [mk_sz, mk_sz]; show acc.length + 1 ≤ _; omega), hy, Option.bind_some, mk_app, if_pos (by rw [mk_sz, mk_sz, List.length_append]; show acc.length + 1 + 1 ≤ _; omega), mk_app, w64 (x := (i : Int) + 1) (by omega) (by omega)]
    have ih := show_l0 s hs a b k m (i + 1) ((acc ++ Go.Lib.bytesOf [hexd ((b8.toNat : Int) / 16)]) ++ Go.Lib.bytesOf [hexd ((b8.toNat : Int) % 16)]) (by omega) (by rw [List.length_append, List.length_append]; show acc.length + 1 + 1 < _; omega)
    rw [show ((i : Int) + 1) = ((i + 1 : Nat) : Int) by omega, ih, e, hexL]
    refine congrArg (fun q : List UInt8 => some (⟨q.toArray⟩ : ByteArray)) ?_
    rw [List.append_assoc, List.append_assoc]; rfl
theorem show_l1 (cs : List Nat) (ho : ∀ c ∈ cs, okC c) (hl : cs.length ≤ 2000) (k : Nat) : ∀ (m i : Nat) (acc : List UInt8), i + m = cs.length → acc.length < 200000 - 32 * m →
    R03_Show.l1 (k + 8 + m + 1) (ints cs) ⟨acc.toArray⟩ (i : Int) = some ⟨(acc ++ (escL (cs.drop i) ++ [34])).toArray⟩
  | 0, i, acc, hi, ha => by
    have hil : (ints cs).length = cs.length := by unfold ints; rw [List.length_map]
    rw [R03_Show.l1, if_neg (by omega), if_pos (by rw [mk_sz]; omega), List.drop_of_length_le (by omega)]
    exact congrArg some (mk_app acc [34])
  | m + 1, i, acc, hi, ha => by
    have hil : (ints cs).length = cs.length := by unfold ints; rw [List.length_map]
    have hlt : i < cs.length := by omega
    have hr : rd (ints cs) (i : Int) = (cs[i] : Int) := by
      unfold rd ints
      rw [Int.toNat_natCast, List.getD_eq_getElem?_getD, List.getElem?_map, List.getElem?_eq_getElem hlt]; rfl
    have hoc := ho cs[i] (List.getElem_mem hlt)
    have hel := escL_le [cs[i]] (fun c hc => by rw [List.mem_singleton.1 hc]; exact hoc)
    have he8 : (escB (cs[i] : Int)).size ≤ 32 := by
      rw [escL, escL, List.append_nil, encL, encL, List.append_nil, ← size_len] at hel
      have : (encodeRune (cs[i] : Int)).length ≤ 4 := by
        unfold encodeRune
        rw [List.length_map]
        exact (encodeRuneZ_length (cs[i] : Int)).2
      omega
    have heq : (⟨acc.toArray⟩ : ByteArray) ++ escB (cs[i] : Int) = ⟨(acc ++ (escB (cs[i] : Int)).data.toList).toArray⟩ := baext (by rw [ByteArray.data_append, Array.toList_append])
    rw [show k + 8 + (m + 1) + 1 = (k + m + 1) + 8 + 1 by omega, R03_Show.l1, if_pos (by omega), if_pos (by omega), hr, escape_q _ hoc, Option.bind_some, if_pos (by rw [mk_sz]; omega), heq, w64 (x := (i : Int) + 1) (by omega) (by omega), show ((i : Int) + 1) = ((i + 1 : Nat) : Int) by omega, show (k + m + 1) + 8 = k + 8 + m + 1 by omega]
    rw [show_l1 cs ho hl k m (i + 1) _ (by omega) (by rw [List.length_append, ← size_len]; omega), List.drop_eq_getElem_cons hlt, escL]
    refine congrArg (fun q : List UInt8 => some (⟨q.toArray⟩ : ByteArray)) ?_
    rw [List.append_assoc, List.append_assoc]
theorem rshow_q (a0 a1 : Int) (a2 : ByteArray) (h : okV a0 a1 a2) (k : Nat) (hk : 5000 ≤ k) : R03_Show.f k a0 a1 a2 = some ⟨(showL a0 a1 a2).toArray⟩ := by
  obtain ⟨b, b1, b2⟩ := check_ev k (by omega) a0 a1 a2
  rw [check_ok _ _ _ h] at b1
  obtain rfl := Option.some.inj b1
  unfold R03_Show.f showL
  rw [b2, Option.bind_some, if_pos rfl]
  rcases h with ⟨rfl, h1, h2, h3⟩ | ⟨rfl, rfl, h1, h2⟩ | ⟨rfl, h1, h2⟩ | ⟨rfl, rfl, h1⟩
  · rw [if_pos rfl, if_pos rfl]
    obtain ⟨k, rfl⟩ : ∃ q, k = q + 30 := ⟨k - 30, by omega⟩
    by_cases c : a1 < 0
    · have hd := digits_q (k + 9) 19 a1.natAbs (Nat.lt_of_lt_of_le (show a1.natAbs < 9223372036854775807 by omega) (by decide)) (by omega)
      have hl := dd_le a1.natAbs (by omega)
      rw [decide_eq_true c, show k + 30 = k + 9 + 19 + 1 + 1 by omega, R03_Show.j0, if_pos rfl, w64 (by omega) (by omega), show -a1 = ((a1.natAbs : Nat) : Int) by omega, hd, Option.bind_some, if_pos (by rw [mk_sz]; omega), itoa_neg' _ c]
      exact congrArg some (mk_app [45] _)
    · have hd := digits_q (k + 9) 19 a1.toNat (Nat.lt_of_lt_of_le (show a1.toNat < 9223372036854775807 by omega) (by decide)) (by omega)
      rw [show ((a1.toNat : Nat) : Int) = a1 by omega] at hd
      rw [decide_eq_false c, show k + 30 = k + 9 + 19 + 1 + 1 by omega, R03_Show.j0, if_neg (by decide), if_pos rfl, hd, Option.bind_some, itoa_pos' _ c]
  · obtain ⟨k, rfl⟩ : ∃ q, k = q + 30 := ⟨k - 30, by omega⟩
    obtain ⟨v1, v2⟩ := valid_runes a2 h2
    have hrl : (runesOf a2.data.toList).length ≤ a2.size := by
      have := runesF_len a2.data.toList.length a2.data.toList
      rw [size_len]; exact this
    have hr := runes_ev a2 (by omega) (k + 28) (by omega)
    have hs := show_l1 (runesOf a2.data.toList) v2 (by omega) (k + 28 - 8 - (runesOf a2.data.toList).length - 1) (runesOf a2.data.toList).length 0 [34] (by omega) (by show 1 < _; omega)
    rw [show k + 28 - 8 - (runesOf a2.data.toList).length - 1 + 8 + (runesOf a2.data.toList).length + 1 = k + 28 by omega] at hs
    rw [if_neg (by decide), if_neg (by decide), if_pos rfl, show k + 30 = k + 28 + 1 + 1 by omega, R03_Show.j0, if_neg (by decide), if_neg (by decide), if_neg (by decide), R03_Show.j1, if_neg (by decide), if_neg (by decide), if_neg (by decide), hr, Option.bind_some]
    exact hs
  · obtain ⟨k, rfl⟩ : ∃ q, k = q + 30 := ⟨k - 30, by omega⟩
    rw [if_neg (by decide), if_neg (by decide), if_neg (by decide), if_pos rfl, show k + 30 = k + 28 + 1 + 1 by omega, R03_Show.j0, if_neg (by decide), if_neg (by decide), if_pos rfl, R03_Show.j1]
    rcases h1 with rfl | rfl
    · rw [if_neg (by decide), if_pos rfl, if_neg (by decide)]
    · rw [if_pos (by decide), if_pos rfl]
  · obtain ⟨k, rfl⟩ : ∃ q, k = q + 30 := ⟨k - 30, by omega⟩
    have hs := show_l0 a2 (by omega) 4 0 (k + 28 - a2.size - 1) a2.size 0 [120, 39] (by omega) (by show 2 < _; omega)
    rw [show k + 28 - a2.size - 1 + a2.size + 1 = k + 28 by omega] at hs
    rw [if_neg (by decide), if_neg (by decide), if_neg (by decide), if_neg (by decide), show k + 30 = k + 28 + 1 + 1 by omega, R03_Show.j0, if_neg (by decide), if_neg (by decide), if_neg (by decide), R03_Show.j1, if_neg (by decide), if_neg (by decide), if_pos rfl]
    refine hs.trans ?_
    rw [bytesOf_app, bytesOf_app, List.append_assoc]
    rfl
theorem num_mk (n : Nat) : strOfNums (numB n) = ⟨(encN n).toArray⟩ := baext (by rw [numS])
theorem rtext_q (a0 a1 : Int) (a2 : ByteArray) (h : okV a0 a1 a2) (k : Nat) (hk : 5000 ≤ k) : R03_Text.f k a0 a1 a2 = some ⟨(textL a0 a1 a2).toArray⟩ := by
  obtain ⟨b, b1, b2⟩ := check_ev k (by omega) a0 a1 a2
  rw [check_ok _ _ _ h] at b1
  obtain rfl := Option.some.inj b1
  have hk0 : 1 ≤ a0 ∧ a0 ≤ 4 := by unfold okV at h; omega
  have r1 := rnum a0.toNat (by omega) (k - 12)
  rw [show k - 12 + 12 = k by omega, show ((a0.toNat : Nat) : Int) = a0 by omega, num_mk] at r1
  unfold R03_Text.f textL
  have e8 : ∀ n, (encN n).length ≤ 8 := fun n => by rw [encN_len]; exact (szOf_pos n).2
  have e80 := e8 a0.toNat
  rw [b2, Option.bind_some, if_pos rfl, r1, Option.bind_some]
  rcases h with ⟨rfl, h1, h2, h3⟩ | ⟨rfl, rfl, h1, h2⟩ | ⟨rfl, h1, h2⟩ | ⟨rfl, rfl, h1⟩
  · rw [if_pos rfl, if_pos rfl]
    have hw : R01_MayWhole.f a1 = some true := by
      unfold R01_MayWhole.f
      first
        | rw [if_pos (by omega), decide_eq_true (by omega)]
        | (simp; omega)
    have r2 := rnum (foldN a1) (by unfold foldN; split <;> omega) (k - 12)
    rw [show k - 12 + 12 = k by omega, num_mk] at r2
    have e81 := e8 (foldN a1)
    unfold R01_Whole.f
    rw [hw, Option.bind_some, if_pos rfl]
    by_cases c : a1 < 0
    · have hf : wrap64 (wrap64 (wrap64 (-a1) - a1) - 1) = ((foldN a1 : Nat) : Int) := by
        rw [w64 (x := -a1) (by omega) (by omega), w64 (x := -a1 - a1) (by omega) (by omega), w64 (by omega) (by omega)]
        unfold foldN
        rw [if_pos c]; omega
      rw [if_neg (by omega), hf, r2, Option.bind_some, Option.bind_some, if_pos (by rw [mk_sz, mk_sz]; omega), mk_app]
    · have hf : wrap64 (a1 + a1) = ((foldN a1 : Nat) : Int) := by
        rw [w64 (by omega) (by omega)]
        unfold foldN
        rw [if_neg c]; omega
      rw [if_pos (by omega), hf, r2, Option.bind_some, Option.bind_some, if_pos (by rw [mk_sz, mk_sz]; omega), mk_app]
  · rw [if_neg (by decide), if_neg (by decide), if_neg (by decide), if_neg (by decide)]
    have r2 := rnum a2.size (by omega) (k - 12)
    rw [show k - 12 + 12 = k by omega, num_mk] at r2
    have e81 := e8 a2.size
    rw [r2, Option.bind_some, if_pos (by rw [mk_sz, mk_sz]; omega), mk_app, if_pos (by rw [mk_sz, List.length_append]; omega)]
    exact congrArg some (baext (by rw [ByteArray.data_append, Array.toList_append]; show _ = _; simp))
  · rw [if_neg (by decide), if_pos rfl, if_neg (by decide), if_pos rfl, Option.bind_some]
    have hb : (strOfNums [a1 % 256]) = ⟨[UInt8.ofNat a1.toNat].toArray⟩ := by
      rcases h1 with rfl | rfl <;> rfl
    rw [hb, if_pos (by rw [mk_sz, mk_sz]; show _ + 1 ≤ _; omega), mk_app]
  · rw [if_neg (by decide), if_neg (by decide), if_neg (by decide), if_neg (by decide)]
    have r2 := rnum a2.size (by omega) (k - 12)
    rw [show k - 12 + 12 = k by omega, num_mk] at r2
    have e81 := e8 a2.size
    rw [r2, Option.bind_some, if_pos (by rw [mk_sz, mk_sz]; omega), mk_app, if_pos (by rw [mk_sz, List.length_append]; omega)]
    exact congrArg some (baext (by rw [ByteArray.data_append, Array.toList_append]; show _ = _; simp))
end Go.Proofs.YtkdndabpaajkaaaGreatDoor.Pure
namespace Go.Proofs.YtkdndabpaajkaaaGreatDoor.U8
open Go.RowKit Go.Proofs.YtkdndabpaajkaaaGreatDoor.A Go.Proofs.YtkdndabpaajkaaaGreatDoorW.PrintWords Go.Proofs.YtkdndabpaajkaaaGreatDoorW.PrintLast Go.Lib
set_option linter.unusedVariables false
set_option linter.unusedSimpArgs false
theorem isidR_q (n0 n1 n2 : Int) : R05_IsID.f n0 n1 n2 = some (okId n0 n1 n2) := by
  unfold R05_IsID.f okId
  by_cases h : n0 ≥ 1
  · rw [if_pos h, decide_eq_true (show 1 ≤ n0 from h), Bool.true_and]
    by_cases h2 : n0 ≤ 15
    · rw [if_pos h2, decide_eq_true h2, Bool.true_and]
      by_cases h3 : n1 ≥ 1
      · rw [if_pos h3, decide_eq_true (show 1 ≤ n1 from h3), Bool.true_and]
        by_cases h4 : n1 ≤ 1099511627775
        · rw [if_pos h4, decide_eq_true h4, Bool.true_and]
          by_cases h5 : n2 ≥ 1
          · rw [if_pos h5, decide_eq_true (show 1 ≤ n2 from h5), Bool.true_and]
          · rw [if_neg h5, decide_eq_false (show ¬ 1 ≤ n2 from h5), Bool.false_and]
        · rw [if_neg h4, decide_eq_false h4, Bool.false_and]
      · rw [if_neg h3, decide_eq_false (show ¬ 1 ≤ n1 from h3), Bool.false_and, Bool.false_and]
    · rw [if_neg h2, decide_eq_false h2, Bool.false_and]
  · rw [if_neg h, decide_eq_false (show ¬ 1 ≤ n0 from h), Bool.false_and]
theorem checkE_r (n0 n1 n2 : Int) (ty : ByteArray) (l : List Att) (ht : ty.size < 20000) (hs : ∀ x ∈ l, x.f0.size < 20000) (hl : l.length < 100000) : Evn (fun k => R06_Check.f k n0 n1 n2 ty (l.map toAR)) (checkE n0 n1 n2 ty l) := by
  unfold checkE
  refine Evn.bc (isidR_q n0 n1 n2) ?_
  cases okId n0 n1 n2 with
  | false => exact Evn.neg (by decide) (Evn.ret _)
  | true =>
    refine Evn.pos rfl (Evn.bind (u := checkN ty) (Evn.of (2 * ty.size + 20) (fun k hk => check_ref ty (by omega) k hk)) ?_)
    by_cases h : checkN ty = 0
    · refine Evn.pos h (Evn.bind (attrs_r l hs hl) ?_)
      rw [decide_eq_true h]
      exact Evn.ret _
    · rw [decide_eq_false h]
      exact Evn.neg h (Evn.ret _)
theorem digitsR (u : Nat) (h : u < 10000000000000) : Evn (fun k => R03_Digits.f k (u : Int)) (bl (decDigits u)) := Evn.of 13 (fun k hk => by
  have := Pure.digits_q (k - 13) 12 u h (by omega)
  rwa [show k - 13 + 12 + 1 = k by omega] at this)
theorem showIdR (n0 n1 n2 : Int) : Evn (fun k => R06_ShowID.f k n0 n1 n2) (showId n0 n1 n2) := by
  unfold showId
  refine Evn.bc (isidR_q n0 n1 n2) ?_
  by_cases h : okId n0 n1 n2 = true
  · obtain ⟨h1, h2, h3, h4⟩ := (okId_iff ..).1 h
    have a := dd_le13 n0.toNat (by omega)
    have b := dd_le13 n1.toNat (by omega)
    have c := dd_le13 n2.toNat (by omega)
    have i0 := digitsR n0.toNat (by omega)
    have i1 := digitsR n1.toNat (by omega)
    have i2 := digitsR n2.toNat (by omega)
    rw [show ((n0.toNat : Nat) : Int) = n0 by omega] at i0
    rw [show ((n1.toNat : Nat) : Int) = n1 by omega] at i1
    rw [show ((n2.toNat : Nat) : Int) = n2 by omega] at i2
    have d : (⟨#[46]⟩ : ByteArray) = bl [46] := rfl
    have l1 : ([46] : List UInt8).length = 1 := rfl
    rw [if_pos h]
    refine Evn.pos h (Evn.bind i0 (Evn.pos (by rw [bl_size]; omega) (Evn.bind i1 (Evn.pos ?_ (Evn.pos ?_ (Evn.bind i2 (Evn.pos ?_ (Evn.con ?_))))))))
    · rw [d, bl_app, bl_size, bl_size, List.length_append, l1]; omega
    · rw [d, bl_app, bl_app, bl_size, List.length_append, List.length_append, l1]; omega
    · rw [d, bl_app, bl_app, bl_app, bl_size, bl_size, List.length_append, List.length_append, List.length_append, l1]; omega
    · rw [d, bl_app, bl_app, bl_app, bl_app]
      unfold idL
      exact congrArg (fun l => some (bl l)) (by rw [List.append_assoc, List.append_assoc, List.append_assoc]; rfl)
  · rw [if_neg h]
    exact Evn.neg h (Evn.ret _)
theorem showVR (a0 a1 : Int) (a2 : ByteArray) (h : okV a0 a1 a2) : Evn (fun k => R03_Show.f k a0 a1 a2) (bl (showL a0 a1 a2)) := Evn.of 5000 (fun k hk => Pure.rshow_q a0 a1 a2 h k hk)
theorem textVR (a0 a1 : Int) (a2 : ByteArray) (h : okV a0 a1 a2) : Evn (fun k => R03_Text.f k a0 a1 a2) (bl (textL a0 a1 a2)) := Evn.of 5000 (fun k hk => Pure.rtext_q a0 a1 a2 h k hk)
theorem numR (n : Nat) (h : n ≤ 4611686018427387903) : Evn (fun k => R01_Num.f k (n : Int)) (bl (encN n)) := Evn.of 12 (fun k hk => by
  have := rnum n h (k - 12)
  rwa [show k - 12 + 12 = k by omega, Pure.num_mk] at this)
theorem show_l0R (a0 a1 a2 : Int) (a3 : ByteArray) : ∀ (p pre : List Att) (acc : List UInt8), (pre ++ p).length < 1000000 → (∀ x ∈ p, okV x.f1.f0 x.f1.f1 x.f1.f2) → (∀ x ∈ p, x.f0.size < 20000) → acc.length + 23000 * p.length ≤ 140737488355328 →
    Evn (fun k => R06_Show.l0 k (bl acc) (pre.length : Int) a0 a1 a2 a3 ((pre ++ p).map toAR)) (bl (acc ++ linesE p))
  | [], pre, acc, hb, _, _, _ => by
    have e : acc ++ linesE [] = acc := List.append_nil _
    rw [e]
    exact Evn.step (fun k => R06_Show.l0.eq_2 ..) (Evn.neg (by rw [List.length_map]; exact nltp pre) (Evn.ret _))
  | x :: p, pre, acc, hb, ho, hs, hl => by
    have hlt := ltp pre x p
    have hw := w1p pre x (by rw [List.length_append] at hb; omega)
    have g1 : ∀ z : AttR, ((pre ++ x :: p).map toAR).getD ((pre.length : Int)).toNat z = toAR x := fun z => rdM pre x p z _ rfl
    have h2 := hs x List.mem_cons_self
    have h3 := showV_le _ _ _ (ho x List.mem_cons_self)
    have hl' : acc.length + 23000 * (p.length + 1) ≤ 140737488355328 := hl
    have e3 : (lineE x).length = x.f0.size + (showL x.f1.f0 x.f1.f1 x.f1.f2).length + 2 := by
      unfold lineE
      rw [List.length_cons, List.length_append, List.length_cons, ← size_len]; omega
    have e : acc ++ linesE (x :: p) = (acc ++ lineE x) ++ linesE p := by rw [List.append_assoc]; rfl
    have ih := show_l0R a0 a1 a2 a3 p (pre ++ [x]) (acc ++ lineE x) (by rw [List.append_assoc]; exact hb) (fun y hy => ho y (List.mem_cons_of_mem _ hy)) (fun y hy => hs y (List.mem_cons_of_mem _ hy)) (by rw [List.length_append, e3]; omega)
    rw [List.append_assoc] at ih
    have d : (⟨#[32]⟩ : ByteArray) = bl [32] := rfl
    have d2 : (⟨#[61]⟩ : ByteArray) = bl [61] := rfl
    have l1 : ([32] : List UInt8).length = 1 := rfl
    have l2 : ([61] : List UInt8).length = 1 := rfl
    have sx : x.f0.data.toList.length = x.f0.size := (size_len _).symm
    have dx : x.f0 = bl x.f0.data.toList := (bl_eta _).symm
    have t0 : (toAR x).f0 = bl x.f0.data.toList := dx
    have h3' : (showL (toAR x).f1.f0 (toAR x).f1.f1 (toAR x).f1.f2).length ≤ 2000 := h3
    have h3q : (bl (showL (toAR x).f1.f0 (toAR x).f1.f1 (toAR x).f1.f2)).size ≤ 2000 := by rw [bl_size]; exact h3
    rw [e]
    refine Evn.step (fun k => R06_Show.l0.eq_2 ..) (Evn.pos (by rw [List.length_map]; exact hlt) (Evn.pos (by rw [bl_size]; omega) (Evn.pos (Int.natCast_nonneg _) ?_)))
    unfold rd_T140
    rw [g1, hw, t0]
    refine Evn.pos ?_ (Evn.pos ?_ (Evn.bind (showVR _ _ _ (ho x List.mem_cons_self)) (Evn.pos ?_ ?_)))
    · rw [d, bl_app, bl_size, bl_size, List.length_append, l1, sx]; omega
    · rw [d, bl_app, bl_app, bl_size, List.length_append, List.length_append, l1, sx]; omega
    · rw [d, d2, bl_app, bl_app, bl_app, bl_size, bl_size, List.length_append, List.length_append, List.length_append, l1, l2, sx]; omega
    · rw [d, d2, bl_app, bl_app, bl_app, bl_app]
      have e9 : ((((acc ++ [32]) ++ x.f0.data.toList) ++ [61]) ++ showL x.f1.f0 x.f1.f1 x.f1.f2) = acc ++ lineE x := by
        unfold lineE
        rw [List.append_assoc, List.append_assoc, List.append_assoc]; rfl
      have ih2 : Evn (fun k => R06_Show.l0 k (bl ((((acc ++ [32]) ++ x.f0.data.toList) ++ [61]) ++ showL x.f1.f0 x.f1.f1 x.f1.f2)) ((pre ++ [x]).length : Int) a0 a1 a2 a3 ((pre ++ x :: p).map toAR)) (bl (acc ++ lineE x ++ linesE p)) := by
        rw [e9]
        exact ih
      exact ih2
theorem showE_r (n0 n1 n2 : Int) (ty : ByteArray) (l : List Att) (ht : ty.size < 20000) (hs : ∀ x ∈ l, x.f0.size < 20000) (hl : l.length < 100000) : Evn (fun k => R06_Show.f k n0 n1 n2 ty (l.map toAR)) (showE n0 n1 n2 ty l) := by
  refine Evn.bind (checkE_r n0 n1 n2 ty l ht hs hl) ?_
  unfold showE
  by_cases h : checkE n0 n1 n2 ty l = true
  · obtain ⟨h1, h2, h3⟩ := (checkE_iff ..).1 h
    obtain ⟨l1, l2⟩ := idL_len _ _ _ h1
    obtain ⟨ha, h24⟩ := checkA_all l h3
    have e : showId n0 n1 n2 = bl (idL n0 n1 n2) := by unfold showId; rw [if_pos h1]
    have d : (⟨#[32]⟩ : ByteArray) = bl [32] := rfl
    have lz : ([32] : List UInt8).length = 1 := rfl
    have sx : ty.data.toList.length = ty.size := (size_len _).symm
    have e2 : ((showId n0 n1 n2 ++ (⟨#[32]⟩ : ByteArray)) ++ ty) = bl ((idL n0 n1 n2 ++ [32]) ++ ty.data.toList) := by rw [e, d, bl_app, bl_appl]
    have e3 : evL n0 n1 n2 ty l = ((idL n0 n1 n2 ++ [32]) ++ ty.data.toList) ++ linesE l := by
      unfold evL
      rw [List.append_assoc, List.append_assoc]; rfl
    rw [if_pos h]
    have ih := show_l0R n0 n1 n2 ty l [] ((idL n0 n1 n2 ++ [32]) ++ ty.data.toList) (by show l.length < _; omega) (fun x hx => (ha x hx).2) hs (by rw [List.length_append, List.length_append, lz, sx]; omega)
    refine Evn.pos h (Evn.bind (showIdR n0 n1 n2) (Evn.pos (by rw [e, bl_size]; omega) (Evn.pos ?_ ?_)))
    · rw [e, d, bl_app, bl_size, List.length_append, lz]; omega
    · rw [e2, e3]
      exact ih
  · rw [if_neg h]
    exact Evn.neg h (Evn.ret _)
theorem attr_l0R : ∀ (p pre : List Att) (acc : List UInt8), (pre ++ p).length < 1000000 → (∀ x ∈ p, okV x.f1.f0 x.f1.f1 x.f1.f2) → (∀ x ∈ p, x.f0.size < 20000) → acc.length + 23000 * p.length ≤ 140737488355328 →
    Evn (fun k => R04_AttrText.l0 k ((pre ++ p).map toAR) (bl acc) (pre.length : Int)) (bl (acc ++ encAs p))
  | [], pre, acc, hb, _, _, _ => by
    have e : acc ++ encAs [] = acc := List.append_nil _
    rw [e]
    exact Evn.step (fun k => R04_AttrText.l0.eq_2 ..) (Evn.neg (by rw [List.length_map]; exact nltp pre) (Evn.ret _))
  | x :: p, pre, acc, hb, ho, hs, hl => by
    have hlt := ltp pre x p
    have hw := w1p pre x (by rw [List.length_append] at hb; omega)
    have g1 : ∀ z : AttR, ((pre ++ x :: p).map toAR).getD ((pre.length : Int)).toNat z = toAR x := fun z => rdM pre x p z _ rfl
    have h2 := hs x List.mem_cons_self
    have h3 := textL_len _ _ _ (ho x List.mem_cons_self)
    have h4 := szOf_pos x.f0.size
    have h5 := encN_len x.f0.size
    have hl' : acc.length + 23000 * (p.length + 1) ≤ 140737488355328 := hl
    have sx : x.f0.data.toList.length = x.f0.size := (size_len _).symm
    have e3 : (encA x).length = (encN x.f0.size).length + x.f0.size + (textL x.f1.f0 x.f1.f1 x.f1.f2).length := by
      unfold encA
      rw [List.length_append, List.length_append, sx]
    have e : acc ++ encAs (x :: p) = (acc ++ encA x) ++ encAs p := by rw [List.append_assoc]; rfl
    have ih := attr_l0R p (pre ++ [x]) (acc ++ encA x) (by rw [List.append_assoc]; exact hb) (fun y hy => ho y (List.mem_cons_of_mem _ hy)) (fun y hy => hs y (List.mem_cons_of_mem _ hy)) (by rw [List.length_append, e3]; omega)
    rw [List.append_assoc] at ih
    have t0 : (toAR x).f0 = bl x.f0.data.toList := (bl_eta _).symm
    have h3' := h3
    have e3q : (bl (textL (toAR x).f1.f0 (toAR x).f1.f1 (toAR x).f1.f2)).size = (textL x.f1.f0 x.f1.f1 x.f1.f2).length := by rw [bl_size]; rfl
    have e4q : (textL (toAR x).f1.f0 (toAR x).f1.f1 (toAR x).f1.f2).length = (textL x.f1.f0 x.f1.f1 x.f1.f2).length := rfl
    have e5q : (bl x.f0.data.toList).size = x.f0.data.toList.length := bl_size _
    have t1 : (bl x.f0.data.toList).size = x.f0.size := by rw [bl_size, sx]
    rw [e]
    refine Evn.step (fun k => R04_AttrText.l0.eq_2 ..) (Evn.pos (by rw [List.length_map]; exact hlt) (Evn.pos (Int.natCast_nonneg _) ?_))
    unfold rd_T140
    rw [g1, hw, t0, t1]
    refine Evn.bind (numR x.f0.size (by omega)) (Evn.pos ?_ (Evn.pos ?_ (Evn.bind (textVR _ _ _ (ho x List.mem_cons_self)) (Evn.pos ?_ ?_))))
    · rw [bl_size, bl_size]; omega
    · rw [bl_app, bl_size, List.length_append]; omega
    · rw [bl_app, bl_app, bl_size, bl_size, List.length_append, List.length_append, sx]; omega
    · rw [bl_app, bl_app, bl_app]
      have e9 : (((acc ++ encN x.f0.size) ++ x.f0.data.toList) ++ textL x.f1.f0 x.f1.f1 x.f1.f2) = acc ++ encA x := by
        unfold encA
        rw [List.append_assoc, List.append_assoc, List.append_assoc]
      have ih2 : Evn (fun k => R04_AttrText.l0 k ((pre ++ x :: p).map toAR) (bl (((acc ++ encN x.f0.size) ++ x.f0.data.toList) ++ textL x.f1.f0 x.f1.f1 x.f1.f2)) ((pre ++ [x]).length : Int)) (bl (acc ++ encA x ++ encAs p)) := by
        rw [e9]
        exact ih
      exact ih2
theorem attrText_r (l : List Att) (hs : ∀ x ∈ l, x.f0.size < 20000) (hl : l.length < 100000) : Evn (fun k => R04_AttrText.f k (l.map toAR)) (attrB l) := by
  refine Evn.bind (attrs_r l hs hl) ?_
  unfold attrB
  by_cases h : checkA l = true
  · obtain ⟨ha, h24⟩ := checkA_all l h
    have h4 := szOf_pos l.length
    have h5 := encN_len l.length
    rw [if_pos h]
    refine Evn.pos h ?_
    rw [List.length_map]
    exact Evn.bind (numR l.length (by omega)) (attr_l0R l [] (encN l.length) (by show l.length < _; omega) (fun x hx => (ha x hx).2) hs (by omega))
  · rw [if_neg h]
    exact Evn.neg h (Evn.ret _)
theorem textE_r (n0 n1 n2 : Int) (ty : ByteArray) (l : List Att) (ht : ty.size < 20000) (hs : ∀ x ∈ l, x.f0.size < 20000) (hl : l.length < 100000) : Evn (fun k => R06_Text.f k n0 n1 n2 ty (l.map toAR)) (textE n0 n1 n2 ty l) := by
  refine Evn.bind (checkE_r n0 n1 n2 ty l ht hs hl) ?_
  unfold textE
  by_cases h : checkE n0 n1 n2 ty l = true
  · obtain ⟨h1, h2, h3⟩ := (checkE_iff ..).1 h
    obtain ⟨g1, g2, g3, g4⟩ := (okId_iff ..).1 h1
    have hb := attrB_len l hs h3
    have ha : attrB l = bl (attrsT l) := by unfold attrB; rw [if_pos h3]
    have i0 := numR n0.toNat (by omega)
    have i1 := numR n1.toNat (by omega)
    have i2 := numR n2.toNat (by omega)
    have i3 := numR ty.size (by omega)
    rw [show ((n0.toNat : Nat) : Int) = n0 by omega] at i0
    rw [show ((n1.toNat : Nat) : Int) = n1 by omega] at i1
    rw [show ((n2.toNat : Nat) : Int) = n2 by omega] at i2
    have s0 := szOf_pos n0.toNat
    have s1 := szOf_pos n1.toNat
    have s2 := szOf_pos n2.toNat
    have s3 := szOf_pos ty.size
    have sx : ty.data.toList.length = ty.size := (size_len _).symm
    have a4 := attrText_r l hs hl
    rw [ha] at a4
    have hq : (bl (attrsT l)).size = (attrsT l).length := bl_size _
    rw [if_pos h]
    refine Evn.pos h (Evn.bind i0 (Evn.bind i1 (Evn.pos ?_ (Evn.bind i2 (Evn.pos ?_ (Evn.bind i3 (Evn.pos ?_ (Evn.pos ?_ (Evn.bind a4 (Evn.pos ?_ (Evn.con ?_)))))))))))
    · rw [bl_size, bl_size, encN_len, encN_len]; omega
    · rw [bl_app, bl_size, bl_size, List.length_append, encN_len, encN_len, encN_len]; omega
    · rw [bl_app, bl_app, bl_size, bl_size, List.length_append, List.length_append, encN_len, encN_len, encN_len, encN_len]; omega
    · rw [bl_app, bl_app, bl_app, bl_size, List.length_append, List.length_append, List.length_append, encN_len, encN_len, encN_len, encN_len]; omega
    · rw [bl_app, bl_app, bl_app, bl_appl, bl_size, bl_size, List.length_append, List.length_append, List.length_append, List.length_append, encN_len, encN_len, encN_len, encN_len, sx]; omega
    · rw [bl_app, bl_app, bl_app, bl_appl, bl_app]
      have e : rowL (itemsE n0 n1 n2 ty) = encN n0.toNat ++ (encN n1.toNat ++ (encN n2.toNat ++ ((encN ty.size ++ ty.data.toList) ++ []))) := rfl
      unfold textEL
      rw [e, List.append_nil]
      exact congrArg (fun l => some (bl l)) (by rw [List.append_assoc, List.append_assoc, List.append_assoc, List.append_assoc, List.append_assoc, List.append_assoc, List.append_assoc, List.append_assoc])
  · rw [if_neg h]
    exact Evn.neg h (Evn.ret _)
set_option maxRecDepth 100000 in
theorem awake6_true : L06_awake.f 80 = some true := by decide +kernel
theorem awake6 : Evn (fun k => L06_awake.f k) true := Evn.of 80 (fun k h => at_rounds (fun k => L06_awake.mono k) h awake6_true)
end Go.Proofs.YtkdndabpaajkaaaGreatDoor.U8
namespace Go.Proofs.YtkdndabpaajkaaaGreatDoor.Pure
open Go.RowKit Go.Proofs.YtkdndabpaajkaaaGreatDoor.A Go.Proofs.YtkdndabpaajkaaaGreatDoor.U8 Go.Proofs.YtkdndabpaajkaaaGreatDoorW.PrintWords Go.Proofs.YtkdndabpaajkaaaGreatDoorW.PrintLast
set_option linter.unusedVariables false
set_option linter.unusedSimpArgs false
theorem bne_self {b : Bool} : ¬ (b != b) = true := by cases b <;> decide
theorem checks_j1 (a0 a1 a2 : Int) (a3 : ByteArray) (l : List Att) (ht : a3.size < 20000) (hs : ∀ x ∈ l, x.f0.size < 20000) (hl : l.length < 100000) : Evn (fun k => L06_EventChecks.j1 k false a0 a1 a2 a3 l a0 a1 a2 a3 (l.map toAR)) true := by
  refine Evn.step (fun k => L06_EventChecks.j1.eq_2 ..) (Evn.neg (by decide) (Evn.bind awake6 (Evn.pos rfl (Evn.bind (showE_ev a0 a1 a2 a3 l ht hs hl) (Evn.bind (showE_r a0 a1 a2 a3 l ht hs hl) (Evn.pos rfl ?_))))))
  refine Evn.bind (textE_ev a0 a1 a2 a3 l ht hs hl) (Evn.bind (textE_r a0 a1 a2 a3 l ht hs hl) (Evn.pos rfl (Evn.bc (showId_q a0 a1 a2) (Evn.bind (showIdR a0 a1 a2) (Evn.con ?_)))))
  rw [beq_self_eq_true]
theorem ref_q (a0 a1 a2 : Int) (a3 : ByteArray) (l : List Att) (hl : l.length < 1000000) : Evn (fun k => L06_Ref.f k a0 a1 a2 a3 l) (a0, a1, a2, a3, l.map toAR) := Evn.bind (refsA_ev l hl) (Evn.ret _)
theorem checks_j0 (a0 a1 a2 : Int) (a3 : ByteArray) (l : List Att) (b0 b1 b2 : Int) (b3 : ByteArray) (m : List Att) (ha : a3.size < 20000) (hs : ∀ x ∈ l, x.f0.size < 20000) (hl : l.length < 100000) (hb : b3.size < 20000) (hs' : ∀ x ∈ m, x.f0.size < 20000) (hm : m.length < 100000) :
    Evn (fun k => L06_EventChecks.j0 k false a0 a1 a2 a3 l b0 b1 b2 b3 m) true := by
  refine Evn.step (fun k => L06_EventChecks.j0.eq_2 ..) (Evn.neg (by decide) (Evn.bind (ref_q a0 a1 a2 a3 l (by omega)) (Evn.bind (ref_q b0 b1 b2 b3 m (by omega)) (Evn.bind (checkE_ev a0 a1 a2 a3 l ha hs hl) (Evn.bind (checkE_r a0 a1 a2 a3 l ha hs hl) (Evn.neg bne_self ?_))))))
  refine Evn.bind (sameE_q a0 a1 a2 a3 l b0 b1 b2 b3 m (by omega)) (Evn.bind (sameE_r a0 a1 a2 a3 l b0 b1 b2 b3 m (by omega)) (Evn.neg bne_self ?_))
  refine Evn.bc (alikeE_q a0 a1 a2 a3 l b0 b1 b2 b3 m ha hb hs hs') (Evn.bind (alikeE_r a0 a1 a2 a3 l b0 b1 b2 b3 m ha hb (by omega) hs hs') ?_)
  rw [show (alikeE a3 l b3 m != alikeE a3 l b3 m) = false from Bool.eq_false_iff.2 bne_self]
  exact checks_j1 a0 a1 a2 a3 l ha hs hl
theorem few6 (a0 a1 a2 : Int) (a3 : ByteArray) (l : List Att) : Evn (fun k => L06_Few.f k a0 a1 a2 a3 l) (decide (a3.size ≤ 200) && fewA l) := by
  by_cases h : a3.size ≤ 200
  · rw [decide_eq_true h, Bool.true_and]
    exact Evn.pos (by omega) (Evn.bind (fewA_ev l) (Evn.ret _))
  · rw [decide_eq_false h, Bool.false_and]
    exact Evn.neg (by omega) (Evn.ret _)
theorem few6_true (a3 : ByteArray) (l : List Att) (h : (decide (a3.size ≤ 200) && fewA l) = true) : a3.size < 20000 ∧ (∀ x ∈ l, x.f0.size < 20000) ∧ l.length < 100000 := by
  rw [Bool.and_eq_true, decide_eq_true_eq] at h
  obtain ⟨g1, g2⟩ := fewA_true l h.2
  exact ⟨by omega, fun x hx => by have := (g2 x hx).1; omega, by omega⟩
theorem EventChecks (a0 a1 a2 : Int) (a3 : ByteArray) (l : List Att) (b0 b1 b2 : Int) (b3 : ByteArray) (m : List Att) (hm : l.length ≤ maxLen) (hw : ∀ v ∈ l, (Lit.int .i64 v.f1.f0).wf = true ∧ (Lit.int .i64 v.f1.f1).wf = true) (hm' : m.length ≤ maxLen) (hw' : ∀ v ∈ m, (Lit.int .i64 v.f1.f0).wf = true ∧ (Lit.int .i64 v.f1.f1).wf = true) :
    ∃ k, L06_EventChecks.f k a0 a1 a2 a3 l b0 b1 b2 b3 m = some true := by
  have no : Evn (fun k => L06_EventChecks.j0 k true a0 a1 a2 a3 l b0 b1 b2 b3 m) true := Evn.step (fun k => L06_EventChecks.j0.eq_2 ..) (Evn.pos rfl (Evn.bind awake6 (Evn.ret _)))
  refine Evn.get (g := fun k => L06_EventChecks.f k a0 a1 a2 a3 l b0 b1 b2 b3 m) (Evn.bind (few6 a0 a1 a2 a3 l) ?_)
  cases h1 : (decide (a3.size ≤ 200) && fewA l) with
  | false => exact Evn.neg (by decide) no
  | true =>
    obtain ⟨x1, x2, x3⟩ := few6_true a3 l h1
    refine Evn.pos rfl (Evn.bind (few6 b0 b1 b2 b3 m) ?_)
    cases h2 : (decide (b3.size ≤ 200) && fewA m) with
    | false => exact no
    | true =>
      obtain ⟨y1, y2, y3⟩ := few6_true b3 m h2
      exact checks_j0 a0 a1 a2 a3 l b0 b1 b2 b3 m x1 x2 x3 y1 y2 y3
end Go.Proofs.YtkdndabpaajkaaaGreatDoor.Pure
