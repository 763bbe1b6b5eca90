/- The plain side of the law LexPlaces: at every text and place the program's Place answers what the document's does, and the worked example holds. No premise. -/
import Derived.Test.YtoajlmmkkcelgaaDoorAx17
import Derived.Test.YtoajlmmkkcelgaaDoorAx47
import Derived.Test.YtoajlmmkkcelgaaDoorPureRunes
namespace Go.Proofs.YtoajlmmkkcelgaaDoor.Pure
open Go.RowKit Go.Proofs.YtoajlmmkkcelgaaDoor.A Go.Proofs.YtoajlmmkkcelgaaDoorW.PrintWords Go.Proofs.YtoajlmmkkcelgaaDoorW.PrintLast Go.Lib Go.Proofs.YtoajlmmkkcelgaaDoor.U8
set_option linter.unusedVariables false
set_option linter.unusedSimpArgs false
set_option maxRecDepth 100000 in
theorem awake7_true : caduceuslaw07_awake.f 60 = some true := by decide +kernel
theorem awake7_ev (k : Nat) (h : 60 ≤ k) : caduceuslaw07_awake.f k = some true := at_rounds (fun k => caduceuslaw07_awake.mono k) h awake7_true
/-- Where a rune stands: the runes from here on, how many are to come, the line and the column. -/
def plc : List Nat → Int → Int → Int → Int × Int
  | [], _, line, col => (line, col)
  | c :: cs, a, line, col => if a ≤ 0 then (line, col) else if c = 10 then plc cs (a - 1) (line + 1) 1 else plc cs (a - 1) line (col + 1)
theorem plc_stop (l : List Nat) (a line col : Int) (h : a ≤ 0) : plc l a line col = (line, col) := by
  cases l with
  | nil => rfl
  | cons c cs => rw [plc, if_pos h]
theorem place_q (s : ByteArray) (hs : s.size < 1000000) : ∀ (m i : Nat) (a line col : Int), i ≤ s.size → s.size - i ≤ m → validF m (s.data.toList.drop i) = true → a ≤ 9223372036854775807 → 0 ≤ line → line ≤ 1 + i → 0 ≤ col → col ≤ 1 + i →
    lex_Place.go s (m + 1) i a line col = some (plc (runesF m (s.data.toList.drop i)) a line col)
  | 0, i, a, line, col, h1, h2, hv, ha, l0, l1, c0, c1 => by
    rw [lex_Place.go, if_neg (by omega)]; rfl
  | m + 1, i, a, line, col, h1, h2, hv, ha, l0, l1, c0, c1 => by
    have hl : (s.data.toList.drop i).length = s.size - i := by rw [List.length_drop, ← size_len]
    rw [lex_Place.go, runesF]
    by_cases hi : i = s.size
    · have e : s.data.toList.drop i = [] := List.drop_of_length_le (by rw [← size_len]; omega)
      rw [if_neg (by omega), e]; rfl
    · have hne : ¬ ((s.data.toList.drop i).isEmpty = true) := by
        intro h; rw [List.isEmpty_iff] at h; rw [h] at hl; simp at hl; omega
      have hw := dec_width (s.data.toList.drop i)
      rw [validF, if_neg hne] at hv
      by_cases hz : (dec (s.data.toList.drop i)).2 = 0
      · rw [if_pos hz] at hv; cases hv
      · rw [if_neg hz, List.drop_drop] at hv
        rw [if_pos (by omega), if_neg hne, if_neg hz, plc, decode_dec s i (by omega) hz]
        by_cases h0 : a ≤ 0
        · rw [if_pos h0, if_pos h0]
        · rw [if_neg h0, if_neg h0, w64 (x := a - 1) (by omega) (by omega)]
          by_cases h10 : (dec (s.data.toList.drop i)).1 = 10
          · rw [if_pos (by omega), if_pos h10, w64 (x := line + 1) (by omega) (by omega), place_q s hs m _ _ _ _ (by omega) (by omega) hv (by omega) (by omega) (by omega) (by omega) (by omega), List.drop_drop]
          · rw [if_neg (by omega), if_neg h10, w64 (x := col + 1) (by omega) (by omega), place_q s hs m _ _ _ _ (by omega) (by omega) hv (by omega) (by omega) (by omega) (by omega) (by omega), List.drop_drop]
theorem find_stop (k : Nat) (at_ line col : Int) (L : List Int) (j : Int) : caduceusref07_Find.j1 (k + 1) at_ L j false line col = some (line, col) := by
  rw [caduceusref07_Find.j1, if_neg (by decide)]
theorem find_r (L : List Nat) (hL : L.length < 1000000) (at_ : Int) (hat : at_ ≤ 9223372036854775807) (k : Nat) : ∀ (m j : Nat) (line col : Int), L.length - j ≤ m → j ≤ L.length → 0 ≤ line → line ≤ 1 + j → 0 ≤ col → col ≤ 1 + j →
    caduceusref07_Find.l0 (k + 2 * m + 2) at_ (ints L) (j : Int) line col = some (plc (L.drop j) (at_ - j) line col)
  | 0, j, line, col, h1, h2, l0, l1, c0, c1 => by
    have e : L.drop j = [] := List.drop_of_length_le (by omega)
    have hn : ((ints L).length : Int) = (L.length : Int) := by unfold ints; rw [List.length_map]
    rw [show k + 2 * 0 + 2 = k + 1 + 1 by omega, caduceusref07_Find.l0, if_neg (by omega), find_stop, e]; rfl
  | m + 1, j, line, col, h1, h2, l0, l1, c0, c1 => by
    have hn : ((ints L).length : Int) = (L.length : Int) := by unfold ints; rw [List.length_map]
    rw [show k + 2 * (m + 1) + 2 = k + 2 * m + 2 + 1 + 1 by omega, caduceusref07_Find.l0]
    by_cases hj : j = L.length
    · have e : L.drop j = [] := List.drop_of_length_le (by omega)
      rw [if_neg (by omega), find_stop, e]; rfl
    · obtain ⟨c, hc⟩ : ∃ c, L[j]? = some c := ⟨_, List.getElem?_eq_getElem (by omega)⟩
      have e : L.drop j = c :: L.drop (j + 1) := by
        obtain ⟨hlt, hg⟩ := List.getElem?_eq_some_iff.1 hc
        rw [List.drop_eq_getElem_cons hlt, hg]
      rw [if_pos (by omega), e, plc]
      by_cases ha : (j : Int) < at_
      · have w1 : wrap64 ((j : Int) + 1) = ((j + 1 : Nat) : Int) := by rw [w64 (by omega) (by omega)]; omega
        have hr : rd (ints L) (j : Int) = (c : Int) := by
          unfold rd ints
          rw [Int.toNat_natCast, List.getD_eq_getElem?_getD, List.getElem?_map, hc]
          rfl
        rw [show decide ((j : Int) < at_) = true from decide_eq_true ha, caduceusref07_Find.j1, if_pos rfl, if_pos (by omega), if_pos (by omega), if_neg (show ¬ at_ - (j : Int) ≤ 0 by omega), hr, w1, show at_ - (j : Int) - 1 = at_ - ((j + 1 : Nat) : Int) by omega]
        by_cases h10 : c = 10
        · rw [if_pos (by omega), if_pos h10, w64 (x := line + 1) (by omega) (by omega), find_r L hL at_ hat k m (j + 1) _ _ (by omega) (by omega) (by omega) (by omega) (by omega) (by omega)]
        · rw [if_neg (by omega), if_neg h10, w64 (x := col + 1) (by omega) (by omega), find_r L hL at_ hat k m (j + 1) _ _ (by omega) (by omega) (by omega) (by omega) (by omega) (by omega)]
      · rw [show decide ((j : Int) < at_) = false from decide_eq_false ha, find_stop, if_pos (by omega)]
theorem runesF_le : ∀ (m : Nat) (l : List UInt8), (runesF m l).length ≤ m
  | 0, l => by simp [runesF]
  | m + 1, l => by
    rw [runesF]
    split
    · simp
    split
    · simp
    · have := runesF_le m (l.drop (dec l).2)
      simp only [List.length_cons]; omega
theorem LexPlaces (s : ByteArray) (a : Int) (h0 : s.size ≤ 140737488351232) (w0 : (Lit.int .i64 a).wf = true) : ∃ k, caduceuslaw07_LexPlaces.f k s a = some true := by
  have w := wf_i64 w0
  refine ⟨10000, ?_⟩
  unfold caduceuslaw07_LexPlaces.f
  have aw := awake7_ev 10000 (by omega)
  rw [aw]
  by_cases h : (s.size : Int) > 2000
  · rw [if_pos h]; rfl
  · rw [if_neg h]
    have hl : s.data.toList.length = s.size := (size_len s).symm
    by_cases hv : validD s.data.toList = true
    · have hq : lex_Place.f s a = some (plc (runesOf s.data.toList) a 1 1) := by
        unfold lex_Place.f
        rw [if_pos (by omega), if_pos hv]
        have hv2 := hv
        rw [validD_validF, hl] at hv2
        have := place_q s (by omega) s.size 0 a 1 1 (by omega) (by omega) hv2 w.2 (by omega) (by omega) (by omega) (by omega)
        rw [this]
        unfold runesOf
        rw [hl]; rfl
      have hr : caduceusref07_Find.f 10000 s a = some (plc (runesOf s.data.toList) a 1 1) := by
        unfold caduceusref07_Find.f
        rw [valid_ev s (by omega) 10000 (by omega), hv, Option.bind_some, if_pos rfl, runes_ev s (by omega) 10000 (by omega), Option.bind_some]
        have hle := runesF_le s.data.toList.length s.data.toList
        have := find_r (runesOf s.data.toList) (by unfold runesOf; omega) a w.2 (10000 - 2 - 2 * s.size) s.size 0 1 1 (by unfold runesOf; omega) (by omega) (by omega) (by omega) (by omega) (by omega)
        rw [show 10000 - 2 - 2 * s.size + 2 * s.size + 2 = 10000 by omega] at this
        rw [show caduceusref07_Find.l0 10000 a (ints (runesOf s.data.toList)) 0 1 1 = _ from this]
        simp
      rw [hq, hr]
      simp
    · have hq : lex_Place.f s a = some (0, 0) := by
        unfold lex_Place.f
        rw [if_pos (by omega), if_neg hv]
      have hr : caduceusref07_Find.f 10000 s a = some (0, 0) := by
        unfold caduceusref07_Find.f
        rw [valid_ev s (by omega) 10000 (by omega), Option.bind_some, if_neg hv]
      rw [hq, hr]
      simp
#print axioms LexPlaces
end Go.Proofs.YtoajlmmkkcelgaaDoor.Pure
