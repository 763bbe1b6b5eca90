/- The plain side of the law LexMany: 290 to 309 marks, each behind none to two blanks: as many tokens as may be are told, one too many is told at its place. No premise. -/
import Derived.Test.YtoajlmmkkcelgaaDoorAx10
import Derived.Test.YtoajlmmkkcelgaaDoorAx15
import Derived.Test.YtoajlmmkkcelgaaDoorAx16
import Derived.Test.YtoajlmmkkcelgaaDoorAx17
import Derived.Test.YtoajlmmkkcelgaaDoorAx46
import Derived.Test.YtoajlmmkkcelgaaDoorPureRunes
import Derived.Test.YtoajlmmkkcelgaaDoorPureGoes
namespace Go.Proofs.YtoajlmmkkcelgaaDoor.Pure
open Go.RowKit Go.Proofs.YtoajlmmkkcelgaaDoor.A Go.Proofs.YtoajlmmkkcelgaaDoorW.PrintWords Go.Proofs.YtoajlmmkkcelgaaDoorW.PrintLast Go.Lib Go.Proofs.YtoajlmmkkcelgaaDoor.U8
set_option linter.unusedVariables false
set_option linter.unusedSimpArgs false
set_option maxRecDepth 100000 in
theorem awakeM_true : caduceuslaw07_awake.f 60 = some true := by decide +kernel
theorem awakeM_ev (k : Nat) (h : 60 ≤ k) : caduceuslaw07_awake.f k = some true := at_rounds (fun k => caduceuslaw07_awake.mono k) h awakeM_true
theorem bq0 (s : ByteArray) : bt s 0 = (byt s.data.toList 0 : Int) := by
  have := bt_byt s 0
  exact this
theorem pre_no (s p : ByteArray) (hp : p.size ≠ 0) (h : byt s.data.toList 0 ≠ byt p.data.toList 0) : ¬ preB s p = true := fun e => h (pre_byte e hp)
theorem ne_of_byt (s : ByteArray) (h : byt s.data.toList 0 ≠ 0) : s.size ≠ 0 := by
  intro e
  apply h
  have : s.data.toList = [] := List.eq_nil_of_length_eq_zero (by rw [← size_len]; exact e)
  rw [this]; rfl
theorem scan_par (s : ByteArray) (h : byt s.data.toList 0 = 40) (k : Nat) : value_Scan.f (k + 10) s = some (0, 0, (⟨#[]⟩ : ByteArray), (⟨#[]⟩ : ByteArray), 3) := by
  have hz := ne_of_byt s (by omega)
  have hne : ¬ s.toList = ([] : List UInt8) := fun e => hz ((toList_nil s).1 e)
  have p1 := pre_no s (⟨#[120, 39]⟩ : ByteArray) (by decide) (by rw [h]; decide)
  have p2 := pre_no s wTrue (by decide) (by rw [h]; decide)
  have p3 := pre_no s wFalse (by decide) (by rw [h]; decide)
  unfold value_Scan.f
  rw [if_neg hne, if_pos (by omega), bq0, h, if_neg (by decide), pre_q, Option.bind_some, if_neg p1, if_neg (by decide), if_neg (by decide)]
  rw [show k + 10 = k + 5 + 4 + 1 by omega, value_Scan.j0, if_neg (by decide), bool_q s (k + 5), Option.bind_some]
  unfold boolS
  rw [if_neg (fun x => p2 x.1), if_neg (fun x => p3 x.1)]
theorem lit_par (s : ByteArray) (h : byt s.data.toList 0 = 40) (k : Nat) : lex_literal.f (k + 10) s = some (0, 0, (⟨#[]⟩ : ByteArray), 0, 0) := by
  unfold lex_literal.f
  rw [scan_par s h k, Option.bind_some]
  dsimp only
  rw [if_neg (by decide), if_neg (by decide)]
theorem word_par (s : ByteArray) (hs : s.size < 1000000) (h : byt s.data.toList 0 = 40) (k : Nat) : lex_word.f (k + 10) s = some 0 := by
  have hz := ne_of_byt s (by omega)
  have hd : (Utf8.decode s 0).1 = 40 := by
    rw [decode_drop, List.drop_zero, decodeL_byt, h]
    unfold decodeN
    rw [if_pos (by omega)]
  unfold lex_word.f
  rw [if_pos (by omega), lex_word.go, if_pos (by omega), hd]
  unfold lex_word.st
  rw [if_pos rfl, letter_q _ (k + 9), Option.bind_some, if_neg (by decide), if_neg (by decide), Option.bind_some, if_pos rfl]
  rfl
theorem mark_no (s : ByteArray) (y : List ByteArray) (k i : Nat) (p : ByteArray) (hi : i < y.length) (hl : y.length < 1000) (hp : rdOf ByteArray.empty y (i : Int) = p) (hn : ¬ preB s p = true) :
    lex_mark.l0 (k + 1) s y (y.length : Int) (i : Int) = lex_mark.l0 k s y (y.length : Int) ((i + 1 : Nat) : Int) := by
  have w1 : wrap64 ((i : Int) + 1) = ((i + 1 : Nat) : Int) := by rw [w64 (by omega) (by omega)]; omega
  rw [lex_mark.l0, if_pos (by omega), if_pos (by omega), if_pos (by omega), hp, pre_q, Option.bind_some, if_neg hn, w1]
theorem pre_par (s : ByteArray) (h : byt s.data.toList 0 = 40) : preB s (⟨#[40]⟩ : ByteArray) = true := by
  have hz := ne_of_byt s (by omega)
  have hlen : 0 < s.data.toList.length := by rw [← size_len]; omega
  unfold preB
  rw [if_pos (show (⟨#[40]⟩ : ByteArray).size ≤ s.size from (show 1 ≤ s.size by omega)), beq_iff_eq]
  have e1 : (s.extract 0 (⟨#[40]⟩ : ByteArray).size).toList = s.data.toList.take 1 := by
    rw [ByteArray.toList_eq, ByteArray.data_extract, Array.toList_extract]
    show s.data.toList.extract 0 1 = _
    simp
  rw [e1, ByteArray.toList_eq]
  match hm : s.data.toList with
  | [] => rw [hm] at hlen; simp at hlen
  | b :: t =>
    rw [hm] at h
    have hb : b = 40 := by
      have : b.toNat = 40 := h
      exact UInt8.toNat_inj.1 (by rw [this]; rfl)
    rw [hb]; rfl
theorem mark_par (s : ByteArray) (h : byt s.data.toList 0 = 40) (k : Nat) : lex_mark.f (k + 10) s = some 1 := by
  unfold lex_mark.f
  rw [Option.bind_some]
  generalize hy : ([(⟨#[33, 61]⟩ : ByteArray), (⟨#[60, 61]⟩ : ByteArray), (⟨#[62, 61]⟩ : ByteArray), (⟨#[61]⟩ : ByteArray), (⟨#[60]⟩ : ByteArray), (⟨#[62]⟩ : ByteArray), (⟨#[123]⟩ : ByteArray), (⟨#[125]⟩ : ByteArray), (⟨#[40]⟩ : ByteArray), (⟨#[41]⟩ : ByteArray), (⟨#[44]⟩ : ByteArray)] : List ByteArray) = y
  have hl : y.length = 11 := by rw [← hy]; rfl
  have n0 := mark_no s y (k + 9) 0 (⟨#[33, 61]⟩ : ByteArray) (by omega) (by omega) (by rw [← hy]; rfl) (pre_no s _ (by decide) (by rw [h]; decide))
  have n1 := mark_no s y (k + 8) 1 (⟨#[60, 61]⟩ : ByteArray) (by omega) (by omega) (by rw [← hy]; rfl) (pre_no s _ (by decide) (by rw [h]; decide))
  have n2 := mark_no s y (k + 7) 2 (⟨#[62, 61]⟩ : ByteArray) (by omega) (by omega) (by rw [← hy]; rfl) (pre_no s _ (by decide) (by rw [h]; decide))
  have n3 := mark_no s y (k + 6) 3 (⟨#[61]⟩ : ByteArray) (by omega) (by omega) (by rw [← hy]; rfl) (pre_no s _ (by decide) (by rw [h]; decide))
  have n4 := mark_no s y (k + 5) 4 (⟨#[60]⟩ : ByteArray) (by omega) (by omega) (by rw [← hy]; rfl) (pre_no s _ (by decide) (by rw [h]; decide))
  have n5 := mark_no s y (k + 4) 5 (⟨#[62]⟩ : ByteArray) (by omega) (by omega) (by rw [← hy]; rfl) (pre_no s _ (by decide) (by rw [h]; decide))
  have n6 := mark_no s y (k + 3) 6 (⟨#[123]⟩ : ByteArray) (by omega) (by omega) (by rw [← hy]; rfl) (pre_no s _ (by decide) (by rw [h]; decide))
  have n7 := mark_no s y (k + 2) 7 (⟨#[125]⟩ : ByteArray) (by omega) (by omega) (by rw [← hy]; rfl) (pre_no s _ (by decide) (by rw [h]; decide))
  have n8 : lex_mark.l0 (k + 1 + 1) s y (y.length : Int) ((8 : Nat) : Int) = some 1 := by
    have hp : rdOf ByteArray.empty y ((8 : Nat) : Int) = (⟨#[40]⟩ : ByteArray) := by rw [← hy]; rfl
    rw [lex_mark.l0, if_pos (by omega), if_pos (by omega), if_pos (by omega), hp, pre_q, Option.bind_some, if_pos (pre_par s h)]
    rfl
  exact n0.trans (n1.trans (n2.trans (n3.trans (n4.trans (n5.trans (n6.trans (n7.trans n8)))))))
theorem ext01 (s : ByteArray) (h : byt s.data.toList 0 = 40) : s.extract 0 1 = (⟨#[40]⟩ : ByteArray) := by
  have hp := pre_par s h
  unfold preB at hp
  rw [if_pos (show (⟨#[40]⟩ : ByteArray).size ≤ s.size from (show 1 ≤ s.size by have := ne_of_byt s (by omega); omega)), beq_iff_eq] at hp
  have e : (s.extract 0 1).data.toList = (⟨#[40]⟩ : ByteArray).data.toList := by
    rw [← ByteArray.toList_eq, ← ByteArray.toList_eq]; exact hp
  cases hx : s.extract 0 1 with
  | mk d =>
    rw [hx] at e
    congr 1
    exact Array.toList_inj.1 e
theorem tok_par (s : ByteArray) (hs : s.size < 1000000) (h : byt s.data.toList 0 = 40) (k : Nat) : lex_token.f (k + 10) s = some (3, 0, (⟨#[40]⟩ : ByteArray), 0, 0, (⟨#[]⟩ : ByteArray), 1, 0) := by
  have hz := ne_of_byt s (by omega)
  unfold lex_token.f
  rw [lit_par s h k, Option.bind_some]
  dsimp only
  rw [if_pos rfl, if_neg (by decide), word_par s hs h k, Option.bind_some, if_neg (by decide), mark_par s h k, Option.bind_some, if_pos (by decide), if_pos (by decide), if_pos (by omega)]
  rw [show s.extract 0 (1 : Int).toNat = s.extract 0 1 from rfl, ext01 s h]
theorem rc1 : utf8_RuneCountInString.f (⟨#[40]⟩ : ByteArray) = some 1 := by decide +kernel
theorem lex_par (s : ByteArray) (hs : s.size < 1000000) (h : byt s.data.toList 0 = 40) (k : Nat) (l : List (S68)) (at_ : Nat) (ha : at_ < 1000000) (hl : l.length ≤ 300) :
    lex_Lex.l0 (k + 11) s l (at_ : Int) = if l.length = 300 then some ([], (at_ : Int), 2) else lex_Lex.l0 (k + 10) (s.extract 1 s.size) (l ++ [⟨3, (at_ : Int), (⟨#[40]⟩ : ByteArray), ⟨0, 0, (⟨#[]⟩ : ByteArray)⟩⟩]) ((at_ + 1 : Nat) : Int) := by
  have hz := ne_of_byt s (by omega)
  have hne : ¬ s.toList = ([] : List UInt8) := fun e => hz ((toList_nil s).1 e)
  have hb : lex_blank.f 40 = some false := by decide +kernel
  rw [lex_Lex.l0, if_neg hne, if_pos (by omega), bq0, h, show lex_blank.f ((40 : Nat) : Int) = some false from hb, Option.bind_some, if_neg (by decide), tok_par s hs h k, Option.bind_some]
  dsimp only
  rw [if_pos rfl]
  by_cases h3 : l.length = 300
  · rw [if_pos (by omega), if_pos h3]
  · rw [if_neg (by omega), if_neg h3, if_pos (by omega), if_pos (by decide), if_pos (by omega), show s.extract 0 (1 : Int).toNat = s.extract 0 1 from rfl, ext01 s h, rc1, Option.bind_some, w64 (by omega) (by omega)]
    rfl
theorem lex_blank1 (s : ByteArray) (h : byt s.data.toList 0 = 32) (k : Nat) (l : List (S68)) (at_ : Nat) (ha : at_ < 1000000) :
    lex_Lex.l0 (k + 1) s l (at_ : Int) = lex_Lex.l0 k (s.extract 1 s.size) l ((at_ + 1 : Nat) : Int) := by
  have hz := ne_of_byt s (by omega)
  have hne : ¬ s.toList = ([] : List UInt8) := fun e => hz ((toList_nil s).1 e)
  have hb : lex_blank.f 32 = some true := by decide +kernel
  rw [lex_Lex.l0, if_neg hne, if_pos (by omega), bq0, h, show lex_blank.f ((32 : Nat) : Int) = some true from hb, Option.bind_some, if_pos rfl, if_pos (by omega), w64 (by omega) (by omega)]
  rfl
theorem lex_blanks : ∀ (g : Nat) (s : ByteArray) (r : List UInt8) (k : Nat) (l : List (S68)) (at_ : Nat), s.data.toList = List.replicate g 32 ++ r → at_ + g < 1000000 →
    ∃ s' : ByteArray, s'.data.toList = r ∧ lex_Lex.l0 (k + g) s l (at_ : Int) = lex_Lex.l0 k s' l ((at_ + g : Nat) : Int)
  | 0, s, r, k, l, at_, hs, ha => ⟨s, hs, rfl⟩
  | g + 1, s, r, k, l, at_, hs, ha => by
    have hr : s.data.toList = 32 :: (List.replicate g 32 ++ r) := hs
    have h0 : byt s.data.toList 0 = 32 := by rw [hr]; rfl
    have h1 : (s.extract 1 s.size).data.toList = List.replicate g 32 ++ r := by rw [U8.extract_toList, hr]; rfl
    obtain ⟨s', e1, e2⟩ := lex_blanks g (s.extract 1 s.size) r k l (at_ + 1) h1 (by omega)
    refine ⟨s', e1, ?_⟩
    rw [show k + (g + 1) = k + g + 1 by omega, lex_blank1 s h0 (k + g) l at_ (by omega), e2, show at_ + 1 + g = at_ + (g + 1) by omega]
/-- n marks, each behind g blanks. -/
def pat (g : Nat) : Nat → List UInt8
  | 0 => []
  | n + 1 => (List.replicate g 32 ++ [40]) ++ pat g n
theorem pat_snoc (g : Nat) : ∀ n, pat g (n + 1) = pat g n ++ (List.replicate g 32 ++ [40])
  | 0 => by simp [pat]
  | n + 1 => by
    have ih := pat_snoc g n
    show (List.replicate g 32 ++ [40]) ++ pat g (n + 1) = ((List.replicate g 32 ++ [40]) ++ pat g n) ++ (List.replicate g 32 ++ [40])
    rw [ih, ← List.append_assoc]
theorem pat_len (g : Nat) : ∀ n, (pat g n).length = (g + 1) * n
  | 0 => rfl
  | n + 1 => by
    rw [pat, List.length_append, pat_len g n, List.length_append, List.length_replicate]
    show g + 1 + (g + 1) * n = _
    rw [Nat.mul_succ]; omega
theorem lex_pat (g : Nat) (hg : g ≤ 2) (k : Nat) : ∀ (n : Nat) (s : ByteArray) (l : List (S68)) (at_ : Nat), n ≤ 400 → s.data.toList = pat g n → at_ + 3 * n < 10000 → l.length ≤ 300 →
    (l.length + n ≤ 300 → ∃ L : List (S68), L.length = l.length + n ∧ lex_Lex.l0 (k + 3 * n + 20) s l (at_ : Int) = some (L, ((at_ + (g + 1) * n : Nat) : Int), 0)) ∧
    (300 < l.length + n → lex_Lex.l0 (k + 3 * n + 20) s l (at_ : Int) = some ([], ((at_ + (g + 1) * (300 - l.length) + g : Nat) : Int), 2))
  | 0, s, l, at_, hn, hs, ha, hl => by
    have hz : s.size = 0 := by rw [size_len, hs]; rfl
    refine ⟨fun _ => ⟨l, rfl, ?_⟩, fun h => by omega⟩
    rw [show k + 3 * 0 + 20 = k + 19 + 1 by omega, lex_Lex.l0, if_pos ((toList_nil s).2 hz)]
    rfl
  | n + 1, s, l, at_, hn, hs, ha, hl => by
    have hs1 : s.data.toList = List.replicate g 32 ++ (40 :: pat g n) := by rw [hs, pat, List.append_assoc]; rfl
    obtain ⟨s1, e1, e2⟩ := lex_blanks g s (40 :: pat g n) (k + 3 * (n + 1) + 20 - g) l at_ hs1 (by omega)
    rw [show k + 3 * (n + 1) + 20 - g + g = k + 3 * (n + 1) + 20 by omega] at e2
    have hz1 : s1.size < 1000000 := by
      rw [size_len, e1, List.length_cons, pat_len]
      have : (g + 1) * n ≤ 3 * n := Nat.mul_le_mul_right n (by omega)
      omega
    have h0 : byt s1.data.toList 0 = 40 := by rw [e1]; rfl
    have hx : (s1.extract 1 s1.size).data.toList = pat g n := by rw [U8.extract_toList, e1]; rfl
    have step := lex_par s1 hz1 h0 (k + 3 * (n + 1) + 20 - g - 11) l (at_ + g) (by omega) hl
    rw [show k + 3 * (n + 1) + 20 - g - 11 + 11 = k + 3 * (n + 1) + 20 - g by omega] at step
    rw [e2, step]
    by_cases h3 : l.length = 300
    · rw [if_pos h3]
      refine ⟨fun h => by omega, fun _ => ?_⟩
      rw [h3]
      simp
    · rw [if_neg h3]
      have hfu : k + 3 * (n + 1) + 20 - g - 11 + 10 = (k + 2 - g) + 3 * n + 20 := by omega
      have hlen : (l ++ [(⟨3, ((at_ + g : Nat) : Int), (⟨#[40]⟩ : ByteArray), ⟨0, 0, (⟨#[]⟩ : ByteArray)⟩⟩ : S68)]).length = l.length + 1 := by simp
      obtain ⟨i1, i2⟩ := lex_pat g hg (k + 2 - g) n (s1.extract 1 s1.size) (l ++ [⟨3, ((at_ + g : Nat) : Int), (⟨#[40]⟩ : ByteArray), ⟨0, 0, (⟨#[]⟩ : ByteArray)⟩⟩]) (at_ + g + 1) (by omega) hx (by omega) (by omega)
      rw [hfu]
      rw [hlen] at i1 i2
      refine ⟨fun h => ?_, fun h => ?_⟩
      · obtain ⟨L, j1, j2⟩ := i1 (by omega)
        refine ⟨L, by omega, ?_⟩
        rw [j2, show at_ + g + 1 + (g + 1) * n = at_ + (g + 1) * (n + 1) by rw [Nat.mul_succ]; omega]
      · rw [i2 (by omega)]
        obtain ⟨d, hd⟩ : ∃ d, 300 - l.length = d + 1 := ⟨300 - l.length - 1, by omega⟩
        rw [hd, show 300 - (l.length + 1) = d by omega, Nat.mul_succ, show at_ + g + 1 + (g + 1) * d + g = at_ + ((g + 1) * d + (g + 1)) + g by omega]
theorem valid_pat (g n : Nat) : validD (pat g n) = true := by
  have ascii : ∀ (l : List UInt8), (∀ b ∈ l, b.toNat < 128) → validF l.length l = true := by
    intro l
    induction l with
    | nil => intro _; rfl
    | cons b t ih =>
      intro h
      have hb : b.toNat < 128 := h b (List.mem_cons_self ..)
      have hd : dec (b :: t) = (b.toNat, 1) := by
        unfold dec decR
        rw [if_neg (by simp), if_pos (show byt (b :: t) 0 < 128 from hb)]
        rfl
      rw [List.length_cons, validF, if_neg (by simp), hd, if_neg (show ¬ (1 : Nat) = 0 by decide)]
      exact ih (fun x hx => h x (List.mem_cons_of_mem _ hx))
  rw [validD_validF]
  apply ascii
  induction n with
  | zero => intro b hb; simp [pat] at hb
  | succ n ih =>
    intro b hb
    rw [pat, List.mem_append, List.mem_append] at hb
    rcases hb with (hb | hb) | hb
    · rw [(List.mem_replicate.1 hb).2]; decide
    · rw [List.mem_singleton.1 hb]; decide
    · exact ih b hb
theorem app_mk (acc : List UInt8) (b : ByteArray) : (⟨acc.toArray⟩ : ByteArray) ++ b = ⟨(acc ++ b.data.toList).toArray⟩ := by
  have e : ((⟨acc.toArray⟩ : ByteArray) ++ b).data.toList = acc ++ b.data.toList := by rw [ByteArray.data_append]; simp
  cases hx : (⟨acc.toArray⟩ : ByteArray) ++ b with
  | mk d => rw [hx] at e; rw [← e]
theorem mk_size (acc : List UInt8) : (⟨acc.toArray⟩ : ByteArray).size = acc.length := by
  show acc.toArray.size = _
  exact List.size_toArray ..
theorem many_l1 (N : Int) (i : Nat) (g : Nat) (k : Nat) : ∀ (m j : Nat) (acc : List UInt8), j + m = g → g ≤ 2 → i < 400 → acc.length + m < 100000 →
    caduceuslaw07_LexMany.l1 (k + m + 1) N (g : Int) ⟨acc.toArray⟩ (i : Int) (j : Int) = caduceuslaw07_LexMany.l0 k N (g : Int) ⟨(acc ++ (List.replicate m 32 ++ [40])).toArray⟩ ((i + 1 : Nat) : Int)
  | 0, j, acc, hj, hg, hi, ha => by
    rw [caduceuslaw07_LexMany.l1, if_neg (by omega), mk_size, if_pos (by omega), app_mk, w64 (by omega) (by omega)]
    rfl
  | m + 1, j, acc, hj, hg, hi, ha => by
    have w1 : wrap64 ((j : Int) + 1) = ((j + 1 : Nat) : Int) := by rw [w64 (by omega) (by omega)]; omega
    have e : acc ++ (List.replicate (m + 1) 32 ++ [40]) = (acc ++ [32]) ++ (List.replicate m 32 ++ [40]) := by simp [List.replicate_succ]
    rw [e, show k + (m + 1) + 1 = k + m + 1 + 1 by omega, caduceuslaw07_LexMany.l1, if_pos (by omega), mk_size, if_pos (by omega), app_mk, w1]
    exact many_l1 N i g k m (j + 1) (acc ++ [32]) (by omega) hg hi (by rw [List.length_append]; show acc.length + 1 + m < _; omega)
theorem many_l0 (n : Nat) (hn : n < 400) (g : Nat) (hg : g ≤ 2) (k : Nat) : ∀ (m i : Nat), i + m = n → caduceuslaw07_LexMany.l0 (k + 4 * m) (n : Int) (g : Int) ⟨(pat g i).toArray⟩ (i : Int) = caduceuslaw07_LexMany.l0 (k + (3 - g - 1) * m) (n : Int) (g : Int) ⟨(pat g n).toArray⟩ (n : Int)
  | 0, i, h => by
    obtain rfl : i = n := by omega
    rfl
  | m + 1, i, h => by
    have hl : (pat g i).length < 2000 := by
      rw [pat_len]
      have : (g + 1) * i ≤ 3 * i := Nat.mul_le_mul_right i (by omega)
      omega
    have e1 := many_l1 (n : Int) i g (k + 4 * (m + 1) - 1 - 1 - g) g 0 (pat g i) (by omega) hg (by omega) (by omega)
    rw [show k + 4 * (m + 1) - 1 - 1 - g + g + 1 = k + 4 * (m + 1) - 1 by omega, ← pat_snoc] at e1
    rw [show k + 4 * (m + 1) = k + 4 * (m + 1) - 1 + 1 by omega, caduceuslaw07_LexMany.l0, if_pos (by omega)]
    refine e1.trans ?_
    have ih := many_l0 n hn g hg (k + (3 - g - 1)) m (i + 1) (by omega)
    rw [show k + 4 * (m + 1) - 1 - 1 - g = k + (3 - g - 1) + 4 * m by omega, ih, Nat.mul_succ, show k + (3 - g - 1) + (3 - g - 1) * m = k + ((3 - g - 1) * m + (3 - g - 1)) by omega]
theorem many_end (n g K : Nat) (hn : 290 ≤ n ∧ n ≤ 309) (hg : g ≤ 2) (hK : 2000 ≤ K) : caduceuslaw07_LexMany.l0 (K + 1) (n : Int) (g : Int) ⟨(pat g n).toArray⟩ (n : Int) = some true := by
  have aw := awakeM_ev K (by omega)
  have hsz : (⟨(pat g n).toArray⟩ : ByteArray).size = (g + 1) * n := by rw [mk_size, pat_len]
  have hlist : (⟨(pat g n).toArray⟩ : ByteArray).data.toList = pat g n := by simp
  have hb : (g + 1) * n ≤ 3 * n := Nat.mul_le_mul_right n (by omega)
  obtain ⟨i1, i2⟩ := lex_pat g hg (K - 3 * n - 20) n ⟨(pat g n).toArray⟩ [] 0 (by omega) hlist (by omega) (by simp)
  rw [show K - 3 * n - 20 + 3 * n + 20 = K by omega] at i1 i2
  have hv : utf8_ValidString.f (⟨(pat g n).toArray⟩ : ByteArray) = some true := by
    unfold utf8_ValidString.f
    rw [if_pos (by omega), hlist, valid_pat]
  have hL : lex_Lex.f K (⟨(pat g n).toArray⟩ : ByteArray) = lex_Lex.l0 K ⟨(pat g n).toArray⟩ [] 0 := by
    unfold lex_Lex.f
    rw [hv, Option.bind_some, if_pos rfl]
  rw [caduceuslaw07_LexMany.l0, if_neg (by omega), hL]
  by_cases h : 300 < n
  · have e := i2 (by simpa using h)
    rw [show lex_Lex.l0 K ⟨(pat g n).toArray⟩ [] 0 = _ from e, Option.bind_some, if_pos (by omega), aw, Option.bind_some, if_pos rfl]
    dsimp only
    rw [if_pos (by rfl), if_pos rfl, w64 (x := (g : Int) + 1) (by omega) (by omega), w64 (x := ((g : Int) + 1) * 300) (by omega) (by omega), w64 (by omega) (by omega)]
    congr 1
    rw [beq_iff_eq]
    simp only [List.length_nil]
    omega
  · obtain ⟨L, hLl, e⟩ := i1 (by simp; omega)
    rw [show lex_Lex.l0 K ⟨(pat g n).toArray⟩ [] 0 = _ from e, Option.bind_some, if_neg (by omega), aw, Option.bind_some, if_pos rfl]
    dsimp only
    rw [if_pos (by rw [hLl]; simp), if_pos rfl, hsz]
    congr 1
    rw [beq_iff_eq]
    omega
theorem LexMany (a0 a1 : Int) (w0 : (Lit.int .i64 a0).wf = true) (w1 : (Lit.int .i64 a1).wf = true) : ∃ k, caduceuslaw07_LexMany.f k a0 a1 = some true := by
  refine ⟨2001 + 4 * 309, ?_⟩
  unfold caduceuslaw07_LexMany.f
  have b0 : -20 < Int.tmod a0 20 ∧ Int.tmod a0 20 < 20 := ⟨by have := Int.lt_tmod_of_pos a0 (show (0 : Int) < 20 by decide); omega, Int.tmod_lt_of_pos a0 (by decide)⟩
  have b1 : -3 < Int.tmod a1 3 ∧ Int.tmod a1 3 < 3 := ⟨by have := Int.lt_tmod_of_pos a1 (show (0 : Int) < 3 by decide); omega, Int.tmod_lt_of_pos a1 (by decide)⟩
  generalize Int.tmod a0 20 = x at b0
  generalize Int.tmod a1 3 = y at b1
  rw [w64 (x := x + 20) (by omega) (by omega), w64 (x := y + 3) (by omega) (by omega), Int.tmod_eq_emod_of_nonneg (by omega), Int.tmod_eq_emod_of_nonneg (by omega), w64 (by omega) (by omega)]
  obtain ⟨n, hn⟩ : ∃ n : Nat, 290 + (x + 20) % 20 = (n : Int) := ⟨(290 + (x + 20) % 20).toNat, by omega⟩
  obtain ⟨g, hg⟩ : ∃ g : Nat, (y + 3) % 3 = (g : Int) := ⟨((y + 3) % 3).toNat, by omega⟩
  rw [hn, hg]
  have h := many_l0 n (by omega) g (by omega) (2001 + 4 * 309 - 4 * n) n 0 (by omega)
  rw [show 2001 + 4 * 309 - 4 * n + 4 * n = 2001 + 4 * 309 by omega] at h
  refine (show caduceuslaw07_LexMany.l0 (2001 + 4 * 309) (n : Int) (g : Int) (⟨#[]⟩ : ByteArray) 0 = _ from h).trans ?_
  have hp : 2001 ≤ 2001 + 4 * 309 - 4 * n + (3 - g - 1) * n := by
    have : 2001 ≤ 2001 + 4 * 309 - 4 * n := by omega
    omega
  obtain ⟨K, hK⟩ : ∃ K, 2001 + 4 * 309 - 4 * n + (3 - g - 1) * n = K + 1 := ⟨2001 + 4 * 309 - 4 * n + (3 - g - 1) * n - 1, by omega⟩
  rw [hK]
  exact many_end n g K (by omega) (by omega) (by omega)
#print axioms LexMany
end Go.Proofs.YtoajlmmkkcelgaaDoor.Pure
