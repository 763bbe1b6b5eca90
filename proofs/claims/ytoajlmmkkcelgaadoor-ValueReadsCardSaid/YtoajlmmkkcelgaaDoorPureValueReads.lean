import Derived.Test.YtoajlmmkkcelgaaDoorAx16
import Derived.Test.YtoajlmmkkcelgaaDoorAx17
import Derived.Test.YtoajlmmkkcelgaaDoorAx18
import Derived.Test.YtoajlmmkkcelgaaDoorAx21
import Derived.Test.YtoajlmmkkcelgaaDoorAx29
import Derived.Test.YtoajlmmkkcelgaaDoorAx30
import Derived.Test.YtoajlmmkkcelgaaDoorAx31
import Derived.Test.YtoajlmmkkcelgaaDoorAx32
import Derived.Test.YtoajlmmkkcelgaaDoorAx33
import Derived.Test.YtoajlmmkkcelgaaDoorPureQuic
import Derived.Test.YtoajlmmkkcelgaaDoorPureCheck
namespace Go.Proofs.YtoajlmmkkcelgaaDoor.Pure
open Go.RowKit Go.Proofs.YtoajlmmkkcelgaaDoor.A Go.Proofs.YtoajlmmkkcelgaaDoor.U8 Go.Proofs.YtoajlmmkkcelgaaDoorW.PrintWords Go.Proofs.YtoajlmmkkcelgaaDoorW.PrintLast
set_option linter.unusedSimpArgs false
set_option linter.unusedVariables false
theorem getS_err (s : ByteArray) (h : (getS s).2.2 ≠ 0) : (getS s).1 = 0 ∧ (getS s).2.1 = ⟨#[]⟩ := by
  unfold getS at *
  by_cases a : s.size = 0
  · rw [if_pos a]; exact ⟨rfl, rfl⟩
  rw [if_neg a] at h ⊢
  by_cases b : s.size < 2 ^ (byt s.data.toList 0 / 64)
  · rw [if_pos b]; exact ⟨rfl, rfl⟩
  rw [if_neg b] at h ⊢
  by_cases c : szOf (be s.data.toList (2 ^ (byt s.data.toList 0 / 64) - 1)) = 2 ^ (byt s.data.toList 0 / 64)
  · rw [if_pos c] at h; exact absurd rfl h
  · rw [if_neg c]; exact ⟨rfl, rfl⟩
theorem getS_ok (s : ByteArray) : 0 ≤ (getS s).1 ∧ (getS s).1 ≤ 4611686018427387903 ∧ (getS s).2.1.size ≤ s.size := by
  unfold getS
  have hp := pow_le8 (byt s.data.toList 0 / 64) (by have := byt_lt s.data.toList 0; omega)
  have hb := be_max s.data.toList (2 ^ (byt s.data.toList 0 / 64) - 1) (by omega)
  have z : (⟨#[]⟩ : ByteArray).size = 0 := rfl
  repeat' split
  all_goals (refine ⟨?_, ?_, ?_⟩)
  all_goals first | (simp only; omega) | skip
  all_goals simp [ByteArray.size_extract]
theorem and1 (x : Int) (h0 : 0 ≤ x) (h1 : x ≤ 4611686018427387903) : Go.bits .and .i64 x 1 = x % 2 := by
  have e63 : (2 : Int) ^ 63 = 9223372036854775808 := by decide
  have h := bits_mask .i64 63 (by decide) (fun n h0 h1 => by rw [e63] at h1; rw [IntKind.wrap_i64]; omega) 1 (by decide) x h0 (by omega)
  have e : ((2 : Int) ^ 1 - 1) = 1 := by decide
  rw [e] at h
  rw [h]
  rfl
theorem take_ev (s : ByteArray) (hs : s.size < 1000000) (q : Int) (hq : q = 2 ∨ q = 3 ∨ q = 4) (k : Nat) :
    ∃ n S rest e, quic_take.f (k + 50) s q = some (q, n, S, rest, e) ∧ caduceusref01_take.f (k + 50) s q = some (n, S, rest, e) := by
  have g1 := qget s hs (k + 38)
  have g2 := rget s hs (k + 20)
  have he := getS_err s
  have ho := getS_ok s
  rw [show k + 38 + 12 = k + 50 by omega] at g1
  rw [show k + 20 + 30 = k + 50 by omega] at g2
  generalize getS s = g at *
  obtain ⟨n, r, e⟩ := g
  simp only at he ho g2
  rcases hq with rfl | rfl | rfl
  · unfold quic_take.f caduceusref01_take.f
    rw [if_neg (by omega), if_neg (by omega), if_pos rfl, if_neg (by omega), if_neg (by omega), g1, g2]
    simp only [Option.bind_some, if_true]
    unfold quic_unfold.f
    rw [and1 n ho.1 ho.2.1, show k + 50 = k + 49 + 1 by omega, caduceusref01_take.j0, Int.tmod_eq_emod_of_nonneg ho.1, Int.tdiv_eq_ediv_of_nonneg ho.1]
    by_cases h : n % 2 = 1
    · rw [if_pos h, if_pos (by simp [h])]
      rw [w64 (x := n / 2) (by omega) (by omega)]
      exact ⟨_, _, _, _, rfl, rfl⟩
    · rw [if_neg h, if_neg (by simp [h]), if_pos rfl]
      rw [w64 (x := n / 2) (by omega) (by omega)]
      exact ⟨_, _, _, _, rfl, rfl⟩
  · unfold quic_take.f caduceusref01_take.f
    rw [if_neg (by omega), if_pos rfl, if_neg (by omega), if_pos rfl]
    unfold quic_getFlag.f
    by_cases hz : s.size = 0
    · rw [if_pos ((toList_nil s).2 hz), if_pos ((toList_nil s).2 hz)]
      exact ⟨_, _, _, _, rfl, rfl⟩
    rw [if_neg (fun h => hz ((toList_nil s).1 h)), if_neg (fun h => hz ((toList_nil s).1 h))]
    simp only [show (0 : Int) < (s.size : Int) by omega, show (1 : Int) ≤ (s.size : Int) by omega, if_true]
    by_cases hb : bt s 0 > 1
    · rw [if_pos hb, if_pos hb]
      exact ⟨_, _, _, _, rfl, rfl⟩
    · rw [if_neg hb, if_neg hb]
      exact ⟨_, _, _, _, rfl, rfl⟩
  · unfold quic_take.f caduceusref01_take.f quic_getText.f caduceusref01_Text.f
    rw [if_pos rfl, if_pos rfl, g1, g2]
    simp only [Option.bind_some]
    by_cases hz : e = 0
    · rw [if_pos hz, if_pos hz]
      by_cases h1 : n > 65536
      · rw [if_pos h1, if_pos h1]
        exact ⟨_, _, _, _, rfl, rfl⟩
      rw [if_neg h1, if_neg h1]
      by_cases h2 : n > (r.size : Int)
      · rw [if_pos h2, if_pos h2]
        exact ⟨_, _, _, _, rfl, rfl⟩
      rw [if_neg h2, if_neg h2, if_pos ho.1, if_pos (by omega), if_pos ho.1, if_pos (by omega)]
      exact ⟨_, _, _, _, rfl, rfl⟩
    · rw [if_neg hz, if_neg hz, (he hz).1, (he hz).2]
      exact ⟨_, _, _, _, rfl, rfl⟩
theorem qTake (k : Nat) (s : ByteArray) (q n : Int) (S rest : ByteArray) (e : Int) (hq : 1 ≤ q ∧ q ≤ 4) (h : quic_take.f (k + 1) s q = some (q, n, S, rest, e)) :
    quic_Take.f (k + 4) s [q] = some (if e = 0 then ([⟨q, n, S⟩], rest, 0) else ([], ⟨#[]⟩, e)) := by
  have hl : (([q] : List Int).length : Int) = 1 := rfl
  have hr : rd [q] 0 = q := rfl
  have w : wrap64 (0 + 1) = 1 := by unfold wrap64; omega
  unfold quic_Take.f
  rw [hl, if_neg (by omega), quic_Take.l0, hl, if_pos (by omega), if_pos (by omega), if_pos (by omega), hr, if_neg (by omega), if_neg (by omega), w]
  rw [quic_Take.l0, if_neg (by omega), hl, quic_Take.l1, if_pos (by omega), if_pos (by omega), hl, if_pos (by omega), hr, h]
  simp only [Option.bind_some]
  by_cases hz : e = 0
  · rw [if_pos hz, if_pos hz, if_pos (by decide), w, quic_Take.l1, if_neg (by omega)]
    rfl
  · rw [if_neg hz, if_neg hz]
theorem rTake (k : Nat) (s : ByteArray) (q n : Int) (S rest : ByteArray) (e : Int) (hq : 1 ≤ q ∧ q ≤ 4) (h : caduceusref01_take.f (k + 1) s q = some (n, S, rest, e)) :
    caduceusref01_Take.f (k + 4) s [q] = some (if e = 0 then ([⟨q, n, S⟩], rest, 0) else ([], ⟨#[]⟩, e)) := by
  have hl : (([q] : List Int).length : Int) = 1 := rfl
  have hr : rd [q] 0 = q := rfl
  have w : wrap64 (0 + 1) = 1 := by unfold wrap64; omega
  unfold caduceusref01_Take.f
  rw [hl, if_neg (by omega), caduceusref01_Take.l0, hl, if_pos (by omega), if_pos (by omega), hr, if_neg (by omega), if_neg (by omega), w]
  rw [caduceusref01_Take.l0, hl, if_neg (by omega), caduceusref01_Take.l1, hl, if_pos (by omega), if_pos (by omega), hr, h]
  simp only [Option.bind_some]
  by_cases hz : e = 0
  · rw [if_pos hz, if_pos hz, if_pos (by decide), w, caduceusref01_Take.l1, hl, if_neg (by omega)]
    rfl
  · rw [if_neg hz, if_neg hz]
/-- What is read: the same by both. -/
theorem read_tail (kind q : Int) (hq : q = 2 ∨ q = 3 ∨ q = 4) (s : ByteArray) (hs : s.size < 1000000) (k k2 : Nat) :
    ∃ a b c d e, ((quic_Take.f (k + 300) s [q]).bind fun bt397 => (if bt397.2.2 = 0 then (if 0 < (bt397.1.length : Int) then ((value_Check.f kind ((rd_T91 bt397.1 0).f1) ((rd_T91 bt397.1 0).f2)).bind fun t404 => (if t404 = true then (some (kind, (rd_T91 bt397.1 0).f1, (rd_T91 bt397.1 0).f2, bt397.2.1, (0 : Int))) else (some ((0 : Int), (0 : Int), (⟨#[]⟩ : ByteArray), (⟨#[]⟩ : ByteArray), (3 : Int))))) else (none)) else (some ((0 : Int), (0 : Int), (⟨#[]⟩ : ByteArray), (⟨#[]⟩ : ByteArray), bt397.2.2)))) = some (a, b, c, d, e) ∧
      ((caduceusref01_Take.f (k2 + 300) s [q]).bind fun bt458 => (if bt458.2.2 = 0 then (if 0 < (bt458.1.length : Int) then ((caduceusref03_Check.f (k2 + 300) kind ((rd_T99 bt458.1 0).f1) ((rd_T99 bt458.1 0).f2)).bind fun t467 => (if t467 = true then (some (kind, (rd_T99 bt458.1 0).f1, (rd_T99 bt458.1 0).f2, bt458.2.1, (0 : Int))) else (some ((0 : Int), (0 : Int), (⟨#[]⟩ : ByteArray), (⟨#[]⟩ : ByteArray), (3 : Int))))) else (none)) else (some ((0 : Int), (0 : Int), (⟨#[]⟩ : ByteArray), (⟨#[]⟩ : ByteArray), bt458.2.2)))) = some (a, b, c, d, e) := by
  obtain ⟨n, S, rest, e, h1, h2⟩ := take_ev s hs q hq (k + 247)
  obtain ⟨n', S', rest', e', h3, h4⟩ := take_ev s hs q hq (k2 + 247)
  have h5 := at_rounds (fun k => quic_take.mono s q k) (show k + 247 + 50 ≤ k + k2 + 247 + 50 by omega) h1
  have h6 := at_rounds (fun k => quic_take.mono s q k) (show k2 + 247 + 50 ≤ k + k2 + 247 + 50 by omega) h3
  have h7 := Option.some.inj (h5.symm.trans h6)
  simp only [Prod.mk.injEq, true_and] at h7
  obtain ⟨rfl, rfl, rfl, rfl⟩ := h7
  rw [show k + 300 = k + 296 + 4 by omega, show k2 + 300 = k2 + 296 + 4 by omega, qTake (k + 296) s q n S rest e (by omega) h1, rTake (k2 + 296) s q n S rest e (by omega) h4]
  simp only [Option.bind_some]
  by_cases hz : e = 0
  · simp only [hz, if_true]
    have l1 : ((([⟨q, n, S⟩] : List S91).length : Nat) : Int) = 1 := rfl
    have l2 : ((([⟨q, n, S⟩] : List S99).length : Nat) : Int) = 1 := rfl
    have r1 : rd_T91 [⟨q, n, S⟩] 0 = ⟨q, n, S⟩ := rfl
    have r2 : rd_T99 [⟨q, n, S⟩] 0 = ⟨q, n, S⟩ := rfl
    rw [l1, l2, r1, r2, if_pos (by omega), if_pos (by omega)]
    obtain ⟨b, c1, c2⟩ := check_ev (k2 + 296 + 4) (by omega) kind n S
    simp only [c1, c2, Option.bind_some]
    cases b
    · exact ⟨_, _, _, _, _, rfl, rfl⟩
    · exact ⟨_, _, _, _, _, rfl, rfl⟩
  · simp only [hz, if_false]
    exact ⟨_, _, _, _, _, rfl, rfl⟩
theorem read_ev (s : ByteArray) (hs : s.size < 1000000) (k : Nat) : ∃ a b c d e, value_Read.f (k + 303) s = some (a, b, c, d, e) ∧ caduceusref03_Read.f (k + 303) s = some (a, b, c, d, e) := by
  have g1 := qget s hs (k + 291)
  have g2 := rget s hs (k + 273)
  have ho := getS_ok s
  rw [show k + 291 + 12 = k + 303 by omega] at g1
  rw [show k + 273 + 30 = k + 303 by omega] at g2
  unfold value_Read.f caduceusref03_Read.f
  rw [g1, g2]
  generalize getS s = g at *
  obtain ⟨n, r, e⟩ := g
  simp only at ho
  simp only [Option.bind_some]
  by_cases hz : e = 0
  · simp only [hz, if_true]
    have hr : r.size < 1000000 := by omega
    have rt := fun q hq => read_tail n q hq r hr (k + 3) k
    have ex : (∃ a b c d e, (some ((0 : Int), (0 : Int), (⟨#[]⟩ : ByteArray), (⟨#[]⟩ : ByteArray), (8 : Int))) = some (a, b, c, d, e) ∧ (some ((0 : Int), (0 : Int), (⟨#[]⟩ : ByteArray), (⟨#[]⟩ : ByteArray), (8 : Int))) = some (a, b, c, d, e)) := ⟨_, _, _, _, _, rfl, rfl⟩
    by_cases c1 : n = 1
    · rw [if_pos c1, show value_how.f n = some 2 by unfold value_how.f; rw [if_pos c1]]
      simp only [Option.bind_some]
      rw [if_neg (by omega), caduceusref03_Read.j0, if_neg (by omega), caduceusref03_Read.j1, if_neg (by omega), caduceusref03_Read.j2, if_neg (by simp; omega)]
      exact rt 2 (by omega)
    rw [if_neg c1]
    by_cases c3 : n = 3
    · rw [show value_how.f n = some 3 by unfold value_how.f; rw [if_neg c1, if_pos c3]]
      simp only [Option.bind_some]
      rw [if_neg (by omega), caduceusref03_Read.j0, if_pos c3, caduceusref03_Read.j1, if_neg (by omega), caduceusref03_Read.j2, if_neg (by simp; omega)]
      exact rt 3 (by omega)
    by_cases c2 : n = 2 ∨ n = 4
    · rw [show value_how.f n = some 4 by (unfold value_how.f; rw [if_neg c1, if_neg c3]; rcases c2 with h | h <;> simp [h])]
      simp only [Option.bind_some]
      rw [if_neg (by omega), caduceusref03_Read.j0, if_neg c3, caduceusref03_Read.j1, if_neg (by omega), caduceusref03_Read.j2, if_neg (by simp; omega)]
      exact rt 4 (by omega)
    · rw [show value_how.f n = some 0 by unfold value_how.f; rw [if_neg c1, if_neg c3, if_neg (by omega), if_neg (by omega)]]
      simp only [Option.bind_some]
      rw [if_pos trivial, caduceusref03_Read.j0, if_neg c3, caduceusref03_Read.j1]
      by_cases h : n < 1
      · rw [if_pos h, caduceusref03_Read.j2, if_pos rfl]; exact ex
      · rw [if_neg h, caduceusref03_Read.j2, if_pos (by simp; omega)]; exact ex
  · simp only [hz, if_false]
    exact ⟨_, _, _, _, _, rfl, rfl⟩
theorem ValueReads (s : ByteArray) (hw : s.size ≤ 140737488351232) : ∃ k, caduceuslaw03_ValueReads.f k s = some true := by
  refine ⟨303, ?_⟩
  unfold caduceuslaw03_ValueReads.f
  have aw := awake_ev 303 (by omega)
  unfold caduceuslaw03_few.f
  simp only [Option.bind_some]
  by_cases h : (s.size : Int) ≤ 2000
  · rw [if_pos (by simp only [h, decide_true])]
    obtain ⟨a, b, c, d, e, h1, h2⟩ := read_ev s (by omega) 0
    rw [h1, h2, aw]
    simp only [Option.bind_some, caduceuslaw03_Ref.f, if_true, beq_self_eq_true, Bool.and_self]
  · rw [if_neg (by simp only [h, decide_false]; decide), aw]
    rfl
#print axioms ValueReads
end Go.Proofs.YtoajlmmkkcelgaaDoor.Pure
