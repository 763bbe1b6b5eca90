import Derived.Test.YtoajlmmkkcelgaaDoorAx3
import Derived.Test.YtoajlmmkkcelgaaDoorAx36
import Derived.Test.YtoajlmmkkcelgaaDoorAx41
import Derived.Test.YtoajlmmkkcelgaaDoorAx9
import Derived.Test.YtoajlmmkkcelgaaDoorPureFirst
namespace Go.Proofs.YtoajlmmkkcelgaaDoor.U8
open Go.RowKit Go.Proofs.YtoajlmmkkcelgaaDoor.A Go.Proofs.YtoajlmmkkcelgaaDoorW.PrintWords Go.Proofs.YtoajlmmkkcelgaaDoorW.PrintLast Go.Lib
set_option linter.unusedVariables false
set_option linter.unusedSimpArgs false
/-- A letter, as the document says. -/
def letB (c : Int) : Bool := (65 ≤ c && c ≤ 90) || (97 ≤ c && c ≤ 122) || (192 ≤ c && c ≤ 591 && c != 215 && c != 247) || (913 ≤ c && c ≤ 937 && c != 930) || (945 ≤ c && c ≤ 969) || (1040 ≤ c && c ≤ 1103) || (19968 ≤ c && c ≤ 40959)
theorem letter_q (c : Int) (k : Nat) : name_Letter.f (k + 1) c = some (letB c) := by
  by_cases e1 : c = 215
  · subst e1; rfl
  by_cases e2 : c = 247
  · subst e2; rfl
  by_cases e3 : c = 930
  · subst e3; rfl
  have n1 : (c = 215) = False := eq_false e1
  have m1 : (c != 215) = true := bne_iff_ne.2 e1
  have m2 : (c != 247) = true := bne_iff_ne.2 e2
  have m3 : (c != 930) = true := bne_iff_ne.2 e3
  have cs : c < 65 ∨ (65 ≤ c ∧ c < 91) ∨ (91 ≤ c ∧ c < 97) ∨ (97 ≤ c ∧ c < 123) ∨ (123 ≤ c ∧ c < 192) ∨ (192 ≤ c ∧ c < 592) ∨ (592 ≤ c ∧ c < 913) ∨ (913 ≤ c ∧ c < 938) ∨ (938 ≤ c ∧ c < 945) ∨ (945 ≤ c ∧ c < 970) ∨ (970 ≤ c ∧ c < 1040) ∨ (1040 ≤ c ∧ c < 1104) ∨ (1104 ≤ c ∧ c < 19968) ∨ (19968 ≤ c ∧ c < 40960) ∨ 40960 ≤ c := by omega
  rcases cs with h | h | h | h | h | h | h | h | h | h | h | h | h | h | h
  all_goals (
    (first | have l65 : (65 ≤ c) = True := eq_true (by omega) | have l65 : (65 ≤ c) = False := eq_false (by omega)); (first | have u90 : (c ≤ 90) = True := eq_true (by omega) | have u90 : (c ≤ 90) = False := eq_false (by omega));
    (first | have l97 : (97 ≤ c) = True := eq_true (by omega) | have l97 : (97 ≤ c) = False := eq_false (by omega)); (first | have u122 : (c ≤ 122) = True := eq_true (by omega) | have u122 : (c ≤ 122) = False := eq_false (by omega));
    (first | have l192 : (192 ≤ c) = True := eq_true (by omega) | have l192 : (192 ≤ c) = False := eq_false (by omega)); (first | have u591 : (c ≤ 591) = True := eq_true (by omega) | have u591 : (c ≤ 591) = False := eq_false (by omega));
    (first | have l913 : (913 ≤ c) = True := eq_true (by omega) | have l913 : (913 ≤ c) = False := eq_false (by omega)); (first | have u937 : (c ≤ 937) = True := eq_true (by omega) | have u937 : (c ≤ 937) = False := eq_false (by omega));
    (first | have l945 : (945 ≤ c) = True := eq_true (by omega) | have l945 : (945 ≤ c) = False := eq_false (by omega)); (first | have u969 : (c ≤ 969) = True := eq_true (by omega) | have u969 : (c ≤ 969) = False := eq_false (by omega));
    (first | have l1040 : (1040 ≤ c) = True := eq_true (by omega) | have l1040 : (1040 ≤ c) = False := eq_false (by omega)); (first | have u1103 : (c ≤ 1103) = True := eq_true (by omega) | have u1103 : (c ≤ 1103) = False := eq_false (by omega));
    (first | have l19968 : (19968 ≤ c) = True := eq_true (by omega) | have l19968 : (19968 ≤ c) = False := eq_false (by omega)); (first | have u40959 : (c ≤ 40959) = True := eq_true (by omega) | have u40959 : (c ≤ 40959) = False := eq_false (by omega))
    )
  all_goals simp only [name_Letter.f, name_Letter.j0, name_between.f, letB, ge_iff_le, n1, m1, m2, m3, l65, u90, l97, u122, l192, u591, l913, u937, l945, u969, l1040, u1103, l19968, u40959, Option.bind_some, if_true, if_false, decide_true, decide_false, Bool.and_true, Bool.and_false, Bool.true_and, Bool.false_and, Bool.or_true, Bool.or_false, Bool.true_or, Bool.false_or, Bool.false_eq_true]
theorem letter_r (c : Int) (k : Nat) : caduceusref02_Letter.f (k + 2) c = some (letB c) := by
  by_cases e1 : c = 215
  · subst e1; rfl
  by_cases e2 : c = 247
  · subst e2; rfl
  by_cases e3 : c = 930
  · subst e3; rfl
  have n1 : (c = 215) = False := eq_false e1
  have m1 : (c != 215) = true := bne_iff_ne.2 e1
  have m2 : (c != 247) = true := bne_iff_ne.2 e2
  have m3 : (c != 930) = true := bne_iff_ne.2 e3
  have cs : c < 65 ∨ (65 ≤ c ∧ c < 91) ∨ (91 ≤ c ∧ c < 97) ∨ (97 ≤ c ∧ c < 123) ∨ (123 ≤ c ∧ c < 192) ∨ (192 ≤ c ∧ c < 592) ∨ (592 ≤ c ∧ c < 913) ∨ (913 ≤ c ∧ c < 938) ∨ (938 ≤ c ∧ c < 945) ∨ (945 ≤ c ∧ c < 970) ∨ (970 ≤ c ∧ c < 1040) ∨ (1040 ≤ c ∧ c < 1104) ∨ (1104 ≤ c ∧ c < 19968) ∨ (19968 ≤ c ∧ c < 40960) ∨ 40960 ≤ c := by omega
  rcases cs with h | h | h | h | h | h | h | h | h | h | h | h | h | h | h
  all_goals (
    (first | have l65 : (65 ≤ c) = True := eq_true (by omega) | have l65 : (65 ≤ c) = False := eq_false (by omega)); (first | have u90 : (c ≤ 90) = True := eq_true (by omega) | have u90 : (c ≤ 90) = False := eq_false (by omega));
    (first | have l97 : (97 ≤ c) = True := eq_true (by omega) | have l97 : (97 ≤ c) = False := eq_false (by omega)); (first | have u122 : (c ≤ 122) = True := eq_true (by omega) | have u122 : (c ≤ 122) = False := eq_false (by omega));
    (first | have l192 : (192 ≤ c) = True := eq_true (by omega) | have l192 : (192 ≤ c) = False := eq_false (by omega)); (first | have u591 : (c ≤ 591) = True := eq_true (by omega) | have u591 : (c ≤ 591) = False := eq_false (by omega));
    (first | have l913 : (913 ≤ c) = True := eq_true (by omega) | have l913 : (913 ≤ c) = False := eq_false (by omega)); (first | have u937 : (c ≤ 937) = True := eq_true (by omega) | have u937 : (c ≤ 937) = False := eq_false (by omega));
    (first | have l945 : (945 ≤ c) = True := eq_true (by omega) | have l945 : (945 ≤ c) = False := eq_false (by omega)); (first | have u969 : (c ≤ 969) = True := eq_true (by omega) | have u969 : (c ≤ 969) = False := eq_false (by omega));
    (first | have l1040 : (1040 ≤ c) = True := eq_true (by omega) | have l1040 : (1040 ≤ c) = False := eq_false (by omega)); (first | have u1103 : (c ≤ 1103) = True := eq_true (by omega) | have u1103 : (c ≤ 1103) = False := eq_false (by omega));
    (first | have l19968 : (19968 ≤ c) = True := eq_true (by omega) | have l19968 : (19968 ≤ c) = False := eq_false (by omega)); (first | have u40959 : (c ≤ 40959) = True := eq_true (by omega) | have u40959 : (c ≤ 40959) = False := eq_false (by omega))
    )
  all_goals simp only [caduceusref02_Letter.f, caduceusref02_Letter.j0, caduceusref02_Letter.j1, letB, ge_iff_le, n1, m1, m2, m3, l65, u90, l97, u122, l192, u591, l913, u937, l945, u969, l1040, u1103, l19968, u40959, Option.bind_some, if_true, if_false, decide_true, decide_false, Bool.and_true, Bool.and_false, Bool.true_and, Bool.false_and, Bool.or_true, Bool.or_false, Bool.true_or, Bool.false_or, Bool.false_eq_true]
theorem decGo (s : ByteArray) (h : s.size ≠ 0) : Lib.decodeGo s = decodeL s.data.toList := by
  unfold Lib.decodeGo decodeL
  rw [if_neg h]
def wordB (c : Int) : Bool := letB c || (c == 95 || (c == 45 || (decide (48 ≤ c) && decide (c ≤ 57))))
/-- Does a word go on at the front? -/
def goesB (l : List UInt8) : Bool := if (dec l).2 = 0 then false else wordB (dec l).1
theorem word_if (c : Int) : (if letB c = true then some true else (if c = 95 then some true else (if c = 45 then some true else (if c ≥ 48 then some (decide (c ≤ 57)) else some false)))) = some (wordB c) := by
  unfold wordB
  by_cases h1 : letB c = true
  · simp [h1]
  by_cases h2 : c = 95
  · simp [h2]
  by_cases h3 : c = 45
  · simp [h3]
  by_cases h4 : c ≥ 48
  · have : decide (48 ≤ c) = true := decide_eq_true h4
    have b2 : (c == 95) = false := beq_eq_false_iff_ne.mpr h2
    have b3 : (c == 45) = false := beq_eq_false_iff_ne.mpr h3
    simp [h1, h2, h3, h4, this, b2, b3]
  · have : decide (48 ≤ c) = false := decide_eq_false h4
    have b2 : (c == 95) = false := beq_eq_false_iff_ne.mpr h2
    have b3 : (c == 45) = false := beq_eq_false_iff_ne.mpr h3
    simp [h1, h2, h3, h4, this, b2, b3]
theorem goes_q (s : ByteArray) (k : Nat) : value_goesOn.f (k + 1) s = some (goesB s.data.toList) := by
  unfold value_goesOn.f utf8_DecodeRuneInString.f goesB
  simp only [Option.bind_some, letter_q, word_if]
  by_cases hz : s.size = 0
  · have e : Lib.decodeGo s = (65533, 0) := by unfold Lib.decodeGo; rw [if_pos hz]
    have e2 : s.data.toList = [] := List.eq_nil_of_length_eq_zero (by rw [data_length]; exact hz)
    rw [e, e2]; rfl
  · rw [decGo s hz]
    have hne : s.data.toList ≠ [] := by intro h; rw [← ByteArray.toList_eq] at h; exact hz ((toList_nil s).1 h)
    have e := dec_decodeL s.data.toList hne
    have hw := decodeL_width s.data.toList
    by_cases hb : decodeL s.data.toList = (65533, 1)
    · rw [if_pos hb] at e
      rw [hb, e]; rfl
    · rw [if_neg hb] at e
      rw [e, if_pos (by omega), if_neg (by omega)]
theorem goes_r (s : ByteArray) (k : Nat) : caduceusref03_GoesOn.f (k + 5) s = some (goesB s.data.toList) := by
  unfold caduceusref03_GoesOn.f goesB
  rw [first_dec s k]
  simp only [Option.bind_some, letter_r _ (k + 3), word_if]
  by_cases h : (dec s.data.toList).2 = 0
  · rw [if_neg (by omega), if_pos h]
  · rw [if_pos (by omega), if_neg h]
/-- Does a text begin with another one? -/
def preB (s p : ByteArray) : Bool := if p.size ≤ s.size then (s.extract 0 p.size).toList == p.toList else false
theorem pre_q (s p : ByteArray) : strings_HasPrefix.f s p = some (preB s p) := by
  unfold strings_HasPrefix.f stringslite_HasPrefix.f preB
  by_cases h : p.size ≤ s.size
  · simp only [show (s.size : Int) ≥ (p.size : Int) by omega, show (0 : Int) ≤ (p.size : Int) by omega, show (p.size : Int) ≤ (s.size : Int) by omega, h, if_true, Int.toNat_natCast, Option.bind_some]
  · simp only [show ¬ (s.size : Int) ≥ (p.size : Int) by omega, h, if_false, Option.bind_some]
theorem pre_l (s p : ByteArray) : stringslite_HasPrefix.f s p = some (preB s p) := by
  have := pre_q s p
  unfold strings_HasPrefix.f at this
  cases h : stringslite_HasPrefix.f s p with
  | none => rw [h] at this; cases this
  | some x => rw [h] at this; exact this
theorem pre_r (s p : ByteArray) : caduceusref03_begins.f s p = some (preB s p) := by
  unfold caduceusref03_begins.f preB
  by_cases h : p.size ≤ s.size
  · simp only [show (s.size : Int) ≥ (p.size : Int) by omega, show (0 : Int) ≤ (p.size : Int) by omega, show (p.size : Int) ≤ (s.size : Int) by omega, h, if_true, Int.toNat_natCast]
  · simp only [show ¬ (s.size : Int) ≥ (p.size : Int) by omega, h, if_false]
theorem pre_size {s p : ByteArray} (h : preB s p = true) : p.size ≤ s.size := by
  unfold preB at h
  by_cases c : p.size ≤ s.size
  · exact c
  · rw [if_neg c] at h; cases h
theorem pre_byte {s p : ByteArray} (h : preB s p = true) (hp : p.size ≠ 0) : byt s.data.toList 0 = byt p.data.toList 0 := by
  have hs := pre_size h
  unfold preB at h
  rw [if_pos hs, beq_iff_eq, ByteArray.toList_eq, ByteArray.toList_eq, ByteArray.data_extract, Array.toList_extract] at h
  have e : (s.data.toList.extract 0 p.size) = s.data.toList.take p.size := by simp [List.extract]
  rw [e] at h
  rw [← h]
  unfold byt
  cases hl : s.data.toList with
  | nil => simp
  | cons b t =>
    obtain ⟨n, hn⟩ : ∃ n, p.size = n + 1 := ⟨p.size - 1, by omega⟩
    rw [hn]; rfl
theorem cut_q (s p : ByteArray) : strings_CutPrefix.f s p = some (if preB s p = true then (s.extract p.size s.size, true) else (s, false)) := by
  unfold strings_CutPrefix.f stringslite_CutPrefix.f
  rw [pre_l]
  simp only [Option.bind_some]
  by_cases h : preB s p = true
  · have hs := pre_size h
    rw [if_pos h, if_pos h, if_pos (by omega), if_pos (by omega)]; rfl
  · rw [if_neg h, if_neg h]; rfl
def wTrue : ByteArray := ⟨#[116, 114, 117, 101]⟩
def wFalse : ByteArray := ⟨#[102, 97, 108, 115, 101]⟩
/-- A bool's literal at the front: what stands there. -/
def boolS (s : ByteArray) : Int × Int × ByteArray × ByteArray × Int :=
  if preB s wTrue = true ∧ goesB (s.data.toList.drop 4) = false then (3, 1, ⟨#[]⟩, s.extract 4 s.size, 0)
  else if preB s wFalse = true ∧ goesB (s.data.toList.drop 5) = false then (3, 0, ⟨#[]⟩, s.extract 5 s.size, 0)
  else (0, 0, ⟨#[]⟩, ⟨#[]⟩, 3)
theorem bool_q (s : ByteArray) (k : Nat) : value_boolean.f (k + 4) s = some (boolS s) := by
  have w1 : wrap64 (0 + 1) = 1 := by unfold wrap64; omega
  have w2 : wrap64 (1 + 1) = 2 := by unfold wrap64; omega
  have l2 : (([(⟨#[102, 97, 108, 115, 101]⟩ : ByteArray), (⟨#[116, 114, 117, 101]⟩ : ByteArray)] : List ByteArray).length : Int) = 2 := rfl
  have r0 : rdOf ByteArray.empty [(⟨#[102, 97, 108, 115, 101]⟩ : ByteArray), (⟨#[116, 114, 117, 101]⟩ : ByteArray)] 0 = wFalse := rfl
  have r1 : rdOf ByteArray.empty [(⟨#[102, 97, 108, 115, 101]⟩ : ByteArray), (⟨#[116, 114, 117, 101]⟩ : ByteArray)] 1 = wTrue := rfl
  have z4 : wTrue.size = 4 := rfl
  have z5 : wFalse.size = 5 := rfl
  have end_ : ∀ l, value_boolean.l0 (k + 2) s l 2 2 = some (0, 0, ⟨#[]⟩, ⟨#[]⟩, 3) := fun l => by rw [value_boolean.l0, if_neg (by omega)]
  have two : value_boolean.l0 (k + 3) s [(⟨#[102, 97, 108, 115, 101]⟩ : ByteArray), (⟨#[116, 114, 117, 101]⟩ : ByteArray)] 2 1 = some (if preB s wTrue = true ∧ goesB (s.data.toList.drop 4) = false then (3, 1, ⟨#[]⟩, s.extract 4 s.size, 0) else (0, 0, ⟨#[]⟩, ⟨#[]⟩, 3)) := by
    rw [value_boolean.l0, l2, if_pos (by omega), if_pos (by omega), if_pos (by omega), r1, cut_q]
    simp only [Option.bind_some]
    by_cases h : preB s wTrue = true
    · simp only [h, if_true, true_and, z4]
      rw [show k + 2 = k + 1 + 1 by omega, goes_q, extract_toList]
      simp only [Option.bind_some]
      by_cases g : goesB (s.data.toList.drop 4) = true
      · rw [if_pos g, w2, end_, if_neg (by simp [g])]
      · rw [if_neg g, if_pos (by simpa using g)]
    · simp only [h, if_false, false_and, Bool.false_eq_true]
      rw [w2, end_]
  unfold value_boolean.f boolS
  simp only [Option.bind_some]
  rw [value_boolean.l0, l2, if_pos (by omega), if_pos (by omega), if_pos (by omega), r0, cut_q]
  simp only [Option.bind_some]
  by_cases h : preB s wFalse = true
  · have hn : ¬ preB s wTrue = true := fun h2 => by
      have e1 := pre_byte h (by decide)
      have e2 := pre_byte h2 (by decide)
      rw [e1] at e2
      exact absurd e2 (by decide)
    simp only [h, if_true, true_and, z5, hn, if_false, false_and]
    rw [show k + 3 = k + 2 + 1 by omega, goes_q, extract_toList]
    simp only [Option.bind_some]
    by_cases g : goesB (s.data.toList.drop 5) = true
    · rw [if_pos g, w1, two]
      simp [hn, g]
    · have g' : goesB (s.data.toList.drop 5) = false := by simpa using g
      rw [if_neg g]
      simp [g']
  · simp only [h, if_false, false_and, Bool.false_eq_true]
    rw [w1, two]
end Go.Proofs.YtoajlmmkkcelgaaDoor.U8
