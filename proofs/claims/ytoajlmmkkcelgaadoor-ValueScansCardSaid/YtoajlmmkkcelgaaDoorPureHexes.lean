import Derived.Test.YtoajlmmkkcelgaaDoorAx13
import Derived.Test.YtoajlmmkkcelgaaDoorAx14
import Derived.Test.YtoajlmmkkcelgaaDoorAx2
import Derived.Test.YtoajlmmkkcelgaaDoorAx6
import Derived.Test.YtoajlmmkkcelgaaDoorPureInteger
namespace Go.Proofs.YtoajlmmkkcelgaaDoor.U8
open Go.RowKit Go.Proofs.YtoajlmmkkcelgaaDoor.A Go.Proofs.YtoajlmmkkcelgaaDoorW.PrintWords Go.Proofs.YtoajlmmkkcelgaaDoorW.PrintLast Go.Lib
set_option linter.unusedVariables false
set_option linter.unusedSimpArgs false
def hexV (c : Nat) : Int := if 48 ≤ c ∧ c ≤ 57 then (c : Int) - 48 else if 97 ≤ c ∧ c ≤ 102 then (c : Int) - 87 else -1
theorem hexV_lt (c : Nat) : -1 ≤ hexV c ∧ hexV c < 16 := by
  unfold hexV
  repeat' split
  all_goals omega
theorem digit_q (c : Nat) (h : c < 256) : value_digit.f (c : Int) = some (hexV c) := by
  have all : ∀ n : Fin 256, value_digit.f ((n.val : Nat) : Int) = some (hexV n.val) := by decide +kernel
  exact all ⟨c, h⟩
theorem digit_r (c : Nat) (h : c < 256) (k : Nat) : caduceusref03_digit.f (k + 1) (c : Int) = some (hexV c) := by
  have all : ∀ n : Fin 256, caduceusref03_digit.f 1 ((n.val : Nat) : Int) = some (hexV n.val) := by decide +kernel
  exact at_rounds (fun k => caduceusref03_digit.mono (c : Int) k) (show 1 ≤ k + 1 by omega) (all ⟨c, h⟩)
theorem or16 (a b : Int) (ha : 0 ≤ a ∧ a < 16) (hb : 0 ≤ b ∧ b < 16) : Go.bits .or .i64 (wrap64 (a * 16)) b = 16 * a + b := by
  have all : ∀ x y : Fin 16, Go.bits .or .i64 (((x.val : Nat) : Int) * 16) ((y.val : Nat) : Int) = 16 * ((x.val : Nat) : Int) + ((y.val : Nat) : Int) := by decide +kernel
  have := all ⟨a.toNat, by omega⟩ ⟨b.toNat, by omega⟩
  simp only at this
  rw [Int.toNat_of_nonneg ha.1, Int.toNat_of_nonneg hb.1] at this
  rw [w64 (by omega) (by omega), this]
theorem baext {a b : ByteArray} (h : a.data.toList = b.data.toList) : a = b := by
  obtain ⟨⟨a⟩⟩ := a
  obtain ⟨⟨b⟩⟩ := b
  simp only at h
  rw [h]
theorem ext_ext (s : ByteArray) (i j : Nat) : (s.extract i s.size).extract j (s.extract i s.size).size = s.extract (i + j) s.size := by
  apply baext
  rw [extract_toList, extract_toList, extract_toList, List.drop_drop]
theorem byt_drop (l : List UInt8) (i j : Nat) : byt (l.drop i) j = byt l (i + j) := by
  unfold byt
  rw [List.getD_eq_getElem?_getD, List.getD_eq_getElem?_getD, List.getElem?_drop]
theorem bt_ext (s : ByteArray) (i j : Nat) : bt (s.extract i s.size) (j : Int) = (byt s.data.toList (i + j) : Int) := by
  rw [btq, extract_toList, byt_drop]
theorem wa1 (i : Nat) (h : i < 1000000) : wrap64 ((i : Int) + 1) = ((i + 1 : Nat) : Int) := by rw [w64 (by omega) (by omega)]; omega
theorem wa2 (i : Nat) (h : i < 1000000) : wrap64 ((i : Int) + 2) = ((i + 2 : Nat) : Int) := by rw [w64 (by omega) (by omega)]; omega
theorem bt_ext0 (s : ByteArray) (i : Nat) : bt (s.extract i s.size) 0 = (byt s.data.toList i : Int) := bt_ext s i 0
theorem bt_ext1 (s : ByteArray) (i : Nat) : bt (s.extract i s.size) 1 = (byt s.data.toList (i + 1) : Int) := bt_ext s i 1
theorem hx_j2q (q : Nat) (y : ByteArray) (z : List Int) : value_bytes.j2 (q + 1) y z true = some (0, 0, ⟨#[]⟩, ⟨#[]⟩, 3) := by rw [value_bytes.j2, if_pos rfl]
theorem hx_j2r (q : Nat) (y : ByteArray) (z : List Int) (j : Int) : caduceusref03_hexes.j2 (q + 1) y z j true = some (0, 0, ⟨#[]⟩, ⟨#[]⟩, 3) := by rw [caduceusref03_hexes.j2, if_pos rfl]
/-- What both make of a pair of digits. -/
theorem hx_pair0 (s : ByteArray) (i k : Nat) (xs : List Int) (a b : Int) (hs : s.size < 1000000) (hl : i + 2 ≤ s.size) (hx : xs.length ≤ i) (a0 : 0 ≤ a ∧ a < 16) (b0 : 0 ≤ b ∧ b < 16)
    (qa : value_digit.f ((byt s.data.toList i : Nat) : Int) = some a) (qb : value_digit.f ((byt s.data.toList (i + 1) : Nat) : Int) = some b)
    (ra : ∀ k, caduceusref03_digit.f (k + 1) ((byt s.data.toList i : Nat) : Int) = some a) (rb : ∀ k, caduceusref03_digit.f (k + 1) ((byt s.data.toList (i + 1) : Nat) : Int) = some b) :
    value_bytes.j2 (k + 2) (s.extract i s.size) xs false = value_bytes.l0 (k + 1) (s.extract (i + 2) s.size) (xs ++ [(16 * a + b) % 256])
    ∧ caduceusref03_hexes.j2 (k + 2) s xs (i : Int) false = caduceusref03_hexes.l0 (k + 1) s (xs ++ [(16 * a + b) % 256]) ((i + 2 : Nat) : Int) := by
  have hz : (s.extract i s.size).size = s.size - i := by rw [ByteArray.size_extract]; omega
  constructor
  · rw [show k + 2 = k + 1 + 1 by omega, value_bytes.j2]
    simp only [Bool.false_eq_true, if_false]
    rw [if_pos (by omega), bt_ext0, qa, Option.bind_some]
    rw [if_pos (by omega), bt_ext1, qb, Option.bind_some]
    rw [if_pos (by omega), if_pos (by omega), ext_ext, or16 _ _ a0 b0]
  · rw [show k + 2 = k + 1 + 1 by omega, caduceusref03_hexes.j2]
    simp only [Bool.false_eq_true, if_false]
    rw [if_pos (by omega), if_pos (by omega), btq s i, ra, Option.bind_some]
    rw [wa1 i (by omega), if_pos (by omega), if_pos (by omega), btq s (i + 1), rb, Option.bind_some]
    rw [if_pos (by omega), wa2 i (by omega), w64 (x := 16 * a) (by omega) (by omega), w64 (by omega) (by omega)]
theorem hx_pair (s : ByteArray) (i k : Nat) (xs : List Int) (hs : s.size < 1000000) (hl : i + 2 ≤ s.size) (hx : xs.length ≤ i) (v0 : 0 ≤ hexV (byt s.data.toList i)) (v1 : 0 ≤ hexV (byt s.data.toList (i + 1))) :
    value_bytes.j2 (k + 2) (s.extract i s.size) xs false = value_bytes.l0 (k + 1) (s.extract (i + 2) s.size) (xs ++ [(16 * hexV (byt s.data.toList i) + hexV (byt s.data.toList (i + 1))) % 256])
    ∧ caduceusref03_hexes.j2 (k + 2) s xs (i : Int) false = caduceusref03_hexes.l0 (k + 1) s (xs ++ [(16 * hexV (byt s.data.toList i) + hexV (byt s.data.toList (i + 1))) % 256]) ((i + 2 : Nat) : Int) :=
  hx_pair0 s i k xs _ _ hs hl hx ⟨v0, (hexV_lt _).2⟩ ⟨v1, (hexV_lt _).2⟩ (digit_q _ (byt_lt _ _)) (digit_q _ (byt_lt _ _)) (digit_r _ (byt_lt _ _)) (digit_r _ (byt_lt _ _))
theorem hx_end (s : ByteArray) (k : Nat) (xs : List Int) (i : Nat) (hi : i = s.size) :
    value_bytes.l0 (k + 2) (s.extract i s.size) xs = some (0, 0, ⟨#[]⟩, ⟨#[]⟩, 3) ∧ caduceusref03_hexes.l0 (k + 2) s xs (i : Int) = some (0, 0, ⟨#[]⟩, ⟨#[]⟩, 3) := by
  have hz : (s.extract i s.size).size = 0 := by rw [ByteArray.size_extract]; omega
  rw [value_bytes.l0, caduceusref03_hexes.l0, if_pos ((toList_nil _).2 hz), if_neg (by omega), value_bytes.j1, caduceusref03_hexes.j1]
  simp only [Bool.false_eq_true, if_false]
  rw [if_pos ((toList_nil _).2 hz), if_pos (by omega)]
  exact ⟨rfl, rfl⟩
theorem hx_ne (s : ByteArray) (i : Nat) (h : i < s.size) : ¬ (s.extract i s.size).toList = [] := fun e => by
  have := (toList_nil _).1 e
  rw [ByteArray.size_extract] at this
  omega
theorem hx_quote (s : ByteArray) (k : Nat) (xs : List Int) (i : Nat) (hs : s.size < 1000000) (hi : i < s.size) (hq : byt s.data.toList i = 39) :
    ∃ r, value_bytes.l0 (k + 2) (s.extract i s.size) xs = some r ∧ caduceusref03_hexes.l0 (k + 2) s xs (i : Int) = some r := by
  have hz : (s.extract i s.size).size = s.size - i := by rw [ByteArray.size_extract]; omega
  rw [value_bytes.l0, caduceusref03_hexes.l0, if_neg (hx_ne s i hi), if_pos (by omega), if_pos (by omega), if_pos (by omega), bt_ext0, btq s i, hq, value_bytes.j1, caduceusref03_hexes.j1]
  rw [show (((39 : Nat) : Int) != 39) = false from rfl]
  simp only [Bool.false_eq_true, if_false]
  rw [if_neg (hx_ne s i hi), if_neg (show ¬ ((i : Int) ≥ (s.size : Int)) by omega)]
  by_cases h200 : (xs.length : Int) > 200
  · rw [if_pos h200, if_pos h200]
    exact ⟨_, rfl, rfl⟩
  · rw [if_neg h200, if_neg h200, if_pos (by omega), wa1 i (by omega), if_pos (by omega), if_pos (by omega), Int.toNat_natCast, ext_ext]
    exact ⟨_, rfl, rfl⟩
theorem hx_bad (s : ByteArray) (k : Nat) (xs : List Int) (i : Nat) (hs : s.size < 1000000) (hi : i < s.size) (hq : byt s.data.toList i ≠ 39)
    (hb : s.size < i + 2 ∨ hexV (byt s.data.toList i) < 0 ∨ hexV (byt s.data.toList (i + 1)) < 0) :
    ∃ r, value_bytes.l0 (k + 4) (s.extract i s.size) xs = some r ∧ caduceusref03_hexes.l0 (k + 4) s xs (i : Int) = some r := by
  have hz : (s.extract i s.size).size = s.size - i := by rw [ByteArray.size_extract]; omega
  have g0 := byt_lt s.data.toList i
  have g1 := byt_lt s.data.toList (i + 1)
  rw [show k + 4 = k + 3 + 1 by omega, value_bytes.l0, caduceusref03_hexes.l0, if_neg (hx_ne s i hi), if_pos (by omega), if_pos (by omega), if_pos (by omega), bt_ext0, btq s i, show k + 3 = k + 2 + 1 by omega, value_bytes.j1, caduceusref03_hexes.j1]
  rw [show (((byt s.data.toList i : Nat) : Int) != 39) = true by rw [bne_iff_ne]; omega]
  simp only [if_true]
  rw [wa1 i (by omega), bt_ext0, bt_ext1, btq s i, btq s (i + 1), digit_q _ g0, digit_q _ g1, show k + 2 = k + 1 + 1 by omega, digit_r _ g0, digit_r _ g1, hx_j2q, hx_j2r]
  simp only [Option.bind_some]
  by_cases hl : s.size < i + 2
  · rw [if_pos (by omega), if_pos (by omega)]
    exact ⟨_, rfl, rfl⟩
  by_cases d0 : hexV (byt s.data.toList i) < 0
  · rw [if_neg (by omega), if_pos (by omega), if_pos d0, if_neg (by omega), if_pos (by omega), if_pos (by omega), if_pos d0]
    exact ⟨_, rfl, rfl⟩
  · rw [if_neg (by omega), if_pos (by omega), if_neg d0, if_pos (by omega), if_neg (by omega), if_pos (by omega), if_pos (by omega), if_neg d0, if_pos (by omega), if_pos (by omega), show decide (hexV (byt s.data.toList (i + 1)) < 0) = true from decide_eq_true (by omega), hx_j2q, hx_j2r]
    exact ⟨_, rfl, rfl⟩
theorem hx_on (s : ByteArray) (k : Nat) (xs : List Int) (i : Nat) (hs : s.size < 1000000) (hl : i + 2 ≤ s.size) (hx : xs.length ≤ i) (hq : byt s.data.toList i ≠ 39)
    (v0 : 0 ≤ hexV (byt s.data.toList i)) (v1 : 0 ≤ hexV (byt s.data.toList (i + 1))) :
    value_bytes.l0 (k + 4) (s.extract i s.size) xs = value_bytes.l0 (k + 1) (s.extract (i + 2) s.size) (xs ++ [(16 * hexV (byt s.data.toList i) + hexV (byt s.data.toList (i + 1))) % 256])
    ∧ caduceusref03_hexes.l0 (k + 4) s xs (i : Int) = caduceusref03_hexes.l0 (k + 1) s (xs ++ [(16 * hexV (byt s.data.toList i) + hexV (byt s.data.toList (i + 1))) % 256]) ((i + 2 : Nat) : Int) := by
  have hz : (s.extract i s.size).size = s.size - i := by rw [ByteArray.size_extract]; omega
  have g0 := byt_lt s.data.toList i
  have g1 := byt_lt s.data.toList (i + 1)
  obtain ⟨p1, p2⟩ := hx_pair s i k xs hs hl hx v0 v1
  rw [← p1, ← p2]
  rw [show k + 4 = k + 3 + 1 by omega, value_bytes.l0, caduceusref03_hexes.l0, if_neg (hx_ne s i (by omega)), if_pos (by omega), if_pos (by omega), if_pos (by omega), bt_ext0, btq s i, show k + 3 = k + 2 + 1 by omega, value_bytes.j1, caduceusref03_hexes.j1]
  rw [show (((byt s.data.toList i : Nat) : Int) != 39) = true by rw [bne_iff_ne]; omega]
  simp only [if_true]
  rw [wa1 i (by omega), bt_ext0, bt_ext1, btq s i, btq s (i + 1), digit_q _ g0, digit_q _ g1, show k + 2 = k + 1 + 1 by omega, digit_r _ g0, digit_r _ g1]
  simp only [Option.bind_some]
  rw [if_neg (by omega), if_pos (by omega), if_neg (by omega), if_pos (by omega), if_neg (by omega), if_pos (by omega), if_pos (by omega), if_neg (by omega), if_pos (by omega), if_pos (by omega), show decide (hexV (byt s.data.toList (i + 1)) < 0) = false from decide_eq_false (by omega)]
  exact ⟨rfl, rfl⟩
theorem hexes_l0 (s : ByteArray) (hs : s.size < 1000000) (k : Nat) : ∀ (m i : Nat) (xs : List Int), i ≤ s.size → s.size - i ≤ m → xs.length ≤ i →
    ∃ r, value_bytes.l0 (k + 3 * m + 4) (s.extract i s.size) xs = some r ∧ caduceusref03_hexes.l0 (k + 3 * m + 4) s xs (i : Int) = some r
  | 0, i, xs, h1, h2, h5 => ⟨_, hx_end s (k + 3 * 0 + 2) xs i (by omega)⟩
  | m + 1, i, xs, h1, h2, h5 => by
    by_cases hi : i = s.size
    · exact ⟨_, hx_end s (k + 3 * (m + 1) + 2) xs i hi⟩
    by_cases hq : byt s.data.toList i = 39
    · exact hx_quote s (k + 3 * (m + 1) + 2) xs i hs (by omega) hq
    by_cases hb : s.size < i + 2 ∨ hexV (byt s.data.toList i) < 0 ∨ hexV (byt s.data.toList (i + 1)) < 0
    · exact hx_bad s (k + 3 * (m + 1)) xs i hs (by omega) hq hb
    · obtain ⟨e1, e2⟩ := hx_on s (k + 3 * (m + 1)) xs i hs (by omega) h5 hq (by omega) (by omega)
      obtain ⟨r, a, b⟩ := hexes_l0 s hs k m (i + 2) (xs ++ [(16 * hexV (byt s.data.toList i) + hexV (byt s.data.toList (i + 1))) % 256]) (by omega) (by omega) (by rw [List.length_append]; show xs.length + 1 ≤ i + 2; omega)
      refine ⟨r, ?_, ?_⟩
      · rw [e1, show k + 3 * (m + 1) + 1 = k + 3 * m + 4 by omega]; exact a
      · rw [e2, show k + 3 * (m + 1) + 1 = k + 3 * m + 4 by omega]; exact b
theorem hexes_ev (s : ByteArray) (hs : s.size < 1000000) (h2 : 2 ≤ s.size) (k : Nat) : ∃ r, value_bytes.f (k + 3 * s.size + 4) s = some r ∧ caduceusref03_hexes.f (k + 3 * s.size + 4) s = some r := by
  unfold value_bytes.f caduceusref03_hexes.f
  rw [if_pos (by omega)]
  exact hexes_l0 s hs k s.size 2 [] h2 (by omega) (by simp)
end Go.Proofs.YtoajlmmkkcelgaaDoor.U8
