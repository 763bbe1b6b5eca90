import Derived.Test.YtoajlmmkkcelgaaDoorAx13
import Derived.Test.YtoajlmmkkcelgaaDoorAx16
import Derived.Test.YtoajlmmkkcelgaaDoorAx17
import Derived.Test.YtoajlmmkkcelgaaDoorAx18
import Derived.Test.YtoajlmmkkcelgaaDoorAx4
import Derived.Test.YtoajlmmkkcelgaaDoorAx5
import Derived.Test.YtoajlmmkkcelgaaDoorAx6
import Derived.Test.YtoajlmmkkcelgaaDoorAx7
import Derived.Test.YtoajlmmkkcelgaaDoorAx8
import Derived.Test.YtoajlmmkkcelgaaDoorAx9
import Derived.Test.YtoajlmmkkcelgaaDoorPureNext
namespace Go.Proofs.YtoajlmmkkcelgaaDoor.U8
open Go.RowKit Go.Proofs.YtoajlmmkkcelgaaDoor.A Go.Proofs.YtoajlmmkkcelgaaDoorW.PrintWords Go.Proofs.YtoajlmmkkcelgaaDoorW.PrintLast Go.Lib
set_option linter.unusedVariables false
set_option linter.unusedSimpArgs false
abbrev ScanR := Int × Int × ByteArray × ByteArray × Int
def errR (e : Int) : ScanR := (0, 0, (⟨#[]⟩ : ByteArray), (⟨#[]⟩ : ByteArray), e)
/-- A text's inside, from place i on: what it says so far is acc. -/
def txtGo (s : ByteArray) : Nat → Nat → List UInt8 → ScanR
  | 0, _, _ => errR 3
  | m + 1, i, acc =>
    if s.size ≤ i then errR 3
    else if byt s.data.toList i = 34 then (if acc.length > 200 then errR 2 else (2, 0, ⟨acc.toArray⟩, s.extract (i + 1) s.size, 0))
    else if byt s.data.toList i = 92 then (match ctl (s.extract i s.size) with
      | some c => txtGo s m (i + (escB (c : Int)).size) (acc ++ encodeRune (c : Int))
      | none => errR 3)
    else if (dec (s.data.toList.drop i)).2 = 0 ∨ (dec (s.data.toList.drop i)).1 < 32 ∨ (dec (s.data.toList.drop i)).1 = 127 then errR 3
    else txtGo s m (i + (dec (s.data.toList.drop i)).2) (acc ++ encodeRune ((dec (s.data.toList.drop i)).1 : Int))
theorem byt_ext (s : ByteArray) (i j : Nat) : byt (s.extract i s.size).data.toList j = byt s.data.toList (i + j) := by rw [extract_toList, byt_drop]
theorem ctl_size (s : ByteArray) (c : Nat) (h : ctl s = some c) : 2 ≤ (escB (c : Int)).size ∧ (escB (c : Int)).size ≤ 6 ∧ (escB (c : Int)).size ≤ s.size ∧ c < 128 := by
  obtain ⟨h1, h2, h3⟩ := ctl_lt s c h
  have two := (by decide +kernel : ∀ n : Fin 128, isCtl (n.val : Int) = true → 2 ≤ (escB (n.val : Int)).size) ⟨c, h1⟩ h2
  exact ⟨two, escB_le _, ((pre_iff _ _).1 h3).1, h1⟩
theorem text_q (s : ByteArray) (hs : s.size < 1000000) (K : Nat) : ∀ (m i : Nat) (acc : List UInt8), i ≤ s.size → s.size - i < m → value_text.go (K + 10) m (s.extract i s.size) acc = some (txtGo s m i acc)
  | 0, i, acc, h1, h2 => by omega
  | m + 1, i, acc, h1, h2 => by
    have hz : (s.extract i s.size).size = s.size - i := by rw [ByteArray.size_extract]; omega
    rw [value_text.go, txtGo]
    by_cases hi : i = s.size
    · rw [if_pos (by omega), if_pos (by omega)]; rfl
    rw [if_neg (show ¬ (s.extract i s.size).size = 0 by omega), if_neg (show ¬ s.size ≤ i by omega), bt_ext0]
    by_cases h34 : byt s.data.toList i = 34
    · rw [if_pos (show ((byt s.data.toList i : Nat) : Int) = 34 by omega), if_pos h34, ext_ext]
      by_cases h200 : acc.length > 200
      · rw [if_pos h200, if_pos h200]; rfl
      · rw [if_neg h200, if_neg h200]
    rw [if_neg (show ¬ ((byt s.data.toList i : Nat) : Int) = 34 by omega), if_neg h34]
    by_cases h92 : byt s.data.toList i = 92
    · rw [if_pos h92, next_bs (s.extract i s.size) (by omega) (by omega) (by rw [byt_ext]; exact h92) K, Option.bind_some]
      cases e : ctl (s.extract i s.size) with
      | none => dsimp only; rw [if_pos rfl]; rfl
      | some c =>
        have hc := ctl_size _ c e
        dsimp only
        rw [if_neg (by omega), if_pos (by omega), Int.toNat_natCast, ext_ext]
        exact text_q s hs K m (i + (escB (c : Int)).size) _ (by omega) (by omega)
    · rw [if_neg h92, next_pl (s.extract i s.size) (by omega) (by rw [byt_ext]; exact h92) (by rw [byt_ext]; exact h34) K, Option.bind_some, extract_toList]
      by_cases hd : (dec (s.data.toList.drop i)).2 = 0 ∨ (dec (s.data.toList.drop i)).1 < 32 ∨ (dec (s.data.toList.drop i)).1 = 127
      · rw [if_pos hd, if_pos hd, if_pos rfl]; rfl
      · have hw := dec_width (s.data.toList.drop i)
        have hl : (s.data.toList.drop i).length = s.size - i := by rw [List.length_drop, ← size_len]
        rw [if_neg hd, if_neg hd]
        dsimp only
        rw [if_neg (by omega), if_pos (by omega), Int.toNat_natCast, ext_ext]
        exact text_q s hs K m (i + (dec (s.data.toList.drop i)).2) _ (by omega) (by omega)
theorem app_mk (acc : List UInt8) (b : ByteArray) : (⟨acc.toArray⟩ : ByteArray) ++ b = ⟨(acc ++ b.data.toList).toArray⟩ := baext (by rw [ByteArray.data_append]; simp)
theorem app_mk2 (acc l : List UInt8) : (⟨acc.toArray⟩ : ByteArray) ++ (⟨l.toArray⟩ : ByteArray) = ⟨(acc ++ l).toArray⟩ := by rw [app_mk]
theorem mk_size (acc : List UInt8) : (⟨acc.toArray⟩ : ByteArray).size = acc.length := by
  show acc.toArray.size = _
  exact List.size_toArray ..
theorem bytes_lo (c : Nat) (h : c < 128) : caduceusref02_Bytes.f (c : Int) = some ⟨(encodeRune (c : Int)).toArray⟩ ∧ (encodeRune (c : Int)).length = 1 := by
  have all : ∀ n : Fin 128, caduceusref02_Bytes.f (n.val : Int) = some ⟨(encodeRune (n.val : Int)).toArray⟩ ∧ (encodeRune (n.val : Int)).length = 1 := by decide +kernel
  exact all ⟨c, h⟩
theorem ext_part (s : ByteArray) (i n : Nat) (h : i + n ≤ s.size) : (s.extract i (i + n)).data.toList = (s.data.toList.drop i).take n := by
  rw [ByteArray.data_extract, Array.toList_extract]
  simp [List.extract_eq_take_drop]
theorem text_r (s : ByteArray) (hs : s.size < 1000000) (k : Nat) : ∀ (m i : Nat) (acc : List UInt8), i ≤ s.size → s.size - i < m → acc.length ≤ i → caduceusref03_text.l0 (k + 2 * m + 140) s ⟨acc.toArray⟩ (i : Int) = some (txtGo s m i acc)
  | 0, i, acc, h1, h2, h3 => by omega
  | m + 1, i, acc, h1, h2, h3 => by
    rw [show k + 2 * (m + 1) + 140 = k + 2 * m + 141 + 1 by omega, caduceusref03_text.l0, txtGo, show k + 2 * m + 141 = k + 2 * m + 140 + 1 by omega]
    by_cases hi : i = s.size
    · rw [if_neg (by omega), if_pos (by omega), caduceusref03_text.j1, if_neg (by decide), if_pos (by omega)]; rfl
    rw [if_pos (by omega), if_pos (by omega), if_neg (show ¬ s.size ≤ i by omega), btq s i, caduceusref03_text.j1]
    by_cases h34 : byt s.data.toList i = 34
    · rw [show (((byt s.data.toList i : Nat) : Int) != 34) = false by rw [h34]; rfl, if_neg (by decide), if_neg (by omega), if_pos h34, mk_size, wa1 i (by omega)]
      by_cases h200 : acc.length > 200
      · rw [if_pos (by omega), if_pos h200]; rfl
      · rw [if_neg (by omega), if_neg h200, if_pos (by omega), if_pos (by omega), Int.toNat_natCast]
    rw [show (((byt s.data.toList i : Nat) : Int) != 34) = true by rw [bne_iff_ne]; omega, if_pos rfl, if_pos (by omega), if_pos (by omega), if_neg h34, btq s i]
    by_cases h92 : byt s.data.toList i = 92
    · rw [if_pos (by omega), if_pos (by omega), if_pos h92, Int.toNat_natCast, show k + 2 * m + 140 = k + 2 * m + 3 + 137 by omega, control_r (s.extract i s.size) (k + 2 * m + 3), Option.bind_some]
      cases e : ctl (s.extract i s.size) with
      | none => dsimp only; rw [if_pos (by decide)]; rfl
      | some c =>
        have hc := ctl_size _ c e
        have hz : (s.extract i s.size).size = s.size - i := by rw [ByteArray.size_extract]; omega
        obtain ⟨eb, ebl⟩ := bytes_lo c hc.2.2.2
        dsimp only
        rw [if_neg (by omega), eb, Option.bind_some, mk_size, mk_size, if_pos (by omega), show k + 2 * m + 3 + 137 = k + 2 * m + 132 + 8 by omega, escape_r c hc.2.2.2, Option.bind_some, app_mk2]
        rw [w64 (by omega) (by omega), show (i : Int) + ((escB (c : Int)).size : Int) = ((i + (escB (c : Int)).size : Nat) : Int) by omega, show k + 2 * m + 132 + 8 = k + 2 * m + 140 by omega]
        exact text_r s hs k m (i + (escB (c : Int)).size) _ (by omega) (by omega) (by rw [List.length_append]; omega)
    · have hw := dec_width (s.data.toList.drop i)
      have hl : (s.data.toList.drop i).length = s.size - i := by rw [List.length_drop, ← size_len]
      rw [if_neg (by omega), if_pos (by omega), if_neg h92, Int.toNat_natCast, show k + 2 * m + 140 = k + 2 * m + 135 + 5 by omega, first_dec, Option.bind_some, extract_toList]
      by_cases hd : (dec (s.data.toList.drop i)).2 = 0 ∨ (dec (s.data.toList.drop i)).1 < 32 ∨ (dec (s.data.toList.drop i)).1 = 127
      · rw [if_pos hd]
        dsimp only
        by_cases d1 : (((dec (s.data.toList.drop i)).2 : Nat) : Int) = 0
        · rw [if_pos d1]; rfl
        by_cases d2 : (((dec (s.data.toList.drop i)).1 : Nat) : Int) < 32
        · rw [if_neg d1, if_pos d2]; rfl
        · rw [if_neg d1, if_neg d2, if_pos (by omega)]; rfl
      · have h0 : (dec (s.data.toList.drop i)).2 ≠ 0 := fun h => hd (.inl h)
        obtain ⟨_, _, he, _⟩ := dec_enc _ h0
        have hel : (encodeRune ((dec (s.data.toList.drop i)).1 : Int)).length = (dec (s.data.toList.drop i)).2 := by rw [he, List.length_take]; omega
        rw [if_neg hd]
        dsimp only
        rw [if_neg (by omega), if_neg (by omega), if_neg (by omega), w64 (by omega) (by omega), show (i : Int) + ((dec (s.data.toList.drop i)).2 : Int) = ((i + (dec (s.data.toList.drop i)).2 : Nat) : Int) by omega, Int.toNat_natCast]
        have hx : (s.extract i (i + (dec (s.data.toList.drop i)).2)).size = (dec (s.data.toList.drop i)).2 := by rw [ByteArray.size_extract]; omega
        rw [if_pos (by omega), if_pos (by omega), if_pos (by rw [mk_size, hx]; omega), app_mk, ext_part s i _ (by omega), ← he, show k + 2 * m + 135 + 5 = k + 2 * m + 140 by omega]
        exact text_r s hs k m (i + (dec (s.data.toList.drop i)).2) _ (by omega) (by omega) (by rw [List.length_append]; omega)
/-- The text at the front. -/
def txtS (s : ByteArray) : ScanR := txtGo s (s.size + 1) 1 []
theorem txt_q (s : ByteArray) (hs : s.size < 1000000) (hz : s.size ≠ 0) (k : Nat) (hk : s.size + 10 ≤ k) : value_text.f k s = some (txtS s) := by
  have h0 : value_text.f (s.size + 10) s = some (txtGo s (s.size + 10) 1 []) := by
    unfold value_text.f
    rw [if_pos ⟨by omega, by omega⟩]
    exact text_q s hs s.size (s.size + 10) 1 [] (by omega) (by omega)
  have ind : ∀ m i acc, i ≤ s.size → s.size - i < m → txtGo s (m + 1) i acc = txtGo s m i acc := by
    intro m
    induction m with
    | zero => intro i acc h1 h2; omega
    | succ m ih =>
      intro i acc h1 h2
      have e1 := text_q s hs 0 (m + 1) i acc h1 h2
      have e2 := text_q s hs 0 (m + 1 + 1) i acc h1 (by omega)
      have e3 := value_text.mono_go 10 (m + 1) (s.extract i s.size) acc _ e1
      have e4 := text_q s hs 1 (m + 1 + 1) i acc h1 (by omega)
      exact Option.some.inj (e4.symm.trans e3)
  have inds : ∀ n, txtGo s (s.size + 1 + n) 1 [] = txtGo s (s.size + 1) 1 [] := by
    intro n
    induction n with
    | zero => rfl
    | succ n ih => rw [← ih]; exact ind (s.size + 1 + n) 1 [] (by omega) (by omega)
  have e := inds 9
  rw [show s.size + 1 + 9 = s.size + 10 by omega] at e
  rw [e] at h0
  exact at_rounds (fun k => value_text.mono s k) hk h0
theorem txt_r (s : ByteArray) (hs : s.size < 1000000) (hz : s.size ≠ 0) (k : Nat) (hk : 2 * s.size + 142 ≤ k) : caduceusref03_text.f k s = some (txtS s) := by
  have h0 : caduceusref03_text.f (2 * s.size + 142) s = some (txtS s) := by
    unfold caduceusref03_text.f
    have := text_r s hs 0 (s.size + 1) 1 [] (by omega) (by omega) (by simp)
    rw [show 0 + 2 * (s.size + 1) + 140 = 2 * s.size + 142 by omega] at this
    exact this
  exact at_rounds (fun k => caduceusref03_text.mono s k) hk h0
theorem eta5 (r : ScanR) : (some (r.1, r.2.1, r.2.2.1, r.2.2.2.1, r.2.2.2.2) : Option ScanR) = some r := rfl
theorem b0_at (s : ByteArray) : bt s 0 = (byt s.data.toList 0 : Int) := btq s 0
theorem scan_ev (s : ByteArray) (hs : s.size < 100000) : ∃ r : ScanR, ∀ k, 1000000 ≤ k → value_Scan.f k s = some r ∧ caduceusref03_Scan.f k s = some r := by
  by_cases h0 : s.toList = ([] : List UInt8)
  · refine ⟨_, fun k hk => ⟨by unfold value_Scan.f; rw [if_pos h0], by unfold caduceusref03_Scan.f; rw [if_pos h0]⟩⟩
  have hz : s.size ≠ 0 := fun h => h0 ((toList_nil s).2 h)
  have hp : 0 < (s.size : Int) := by omega
  by_cases h34 : bt s 0 = 34
  · refine ⟨txtS s, fun k hk => ⟨?_, ?_⟩⟩
    · unfold value_Scan.f; rw [if_neg h0, if_pos hp, if_pos h34, txt_q s (by omega) hz k (by omega), Option.bind_some]
    · unfold caduceusref03_Scan.f; rw [if_neg h0, if_pos hp, if_pos h34, txt_r s (by omega) hz k (by omega), Option.bind_some]
  by_cases hx : preB s (⟨#[120, 39]⟩ : ByteArray) = true
  · obtain ⟨r, e1, e2⟩ := hexes_ev s (by omega) (pre_size hx) 0
    refine ⟨r, fun k hk => ⟨?_, ?_⟩⟩
    · unfold value_Scan.f; rw [if_neg h0, if_pos hp, if_neg h34, pre_q, Option.bind_some, if_pos hx, at_rounds (fun k => value_bytes.mono s k) (show 0 + 3 * s.size + 4 ≤ k by omega) e1, Option.bind_some]
    · unfold caduceusref03_Scan.f; rw [if_neg h0, if_pos hp, if_neg h34, pre_r, Option.bind_some, if_pos hx, at_rounds (fun k => caduceusref03_hexes.mono s k) (show 0 + 3 * s.size + 4 ≤ k by omega) e2, Option.bind_some]
  by_cases hd : byt s.data.toList 0 = 45 ∨ (48 ≤ byt s.data.toList 0 ∧ byt s.data.toList 0 ≤ 57)
  · obtain ⟨r, e1, e2⟩ := int_ev s (by omega) hz 0
    have i1 : ∀ k, 999999 ≤ k → value_Scan.j0 (k + 1) s true = some r := fun k hk => by
      rw [value_Scan.j0, if_pos rfl, at_rounds (fun k => value_integer.mono s k) (show 0 + s.size + 2 ≤ k by omega) e1, Option.bind_some]
    have i2 : ∀ k, 999999 ≤ k → caduceusref03_Scan.j0 (k + 1) s true = some r := fun k hk => by
      rw [caduceusref03_Scan.j0, if_pos rfl, at_rounds (fun k => caduceusref03_integer.mono s k) (show 0 + 2 * s.size + 5 ≤ k by omega) e2, Option.bind_some]
    refine ⟨r, fun k hk => ?_⟩
    obtain ⟨k, rfl⟩ : ∃ q, k = q + 1 := ⟨k - 1, by omega⟩
    unfold value_Scan.f caduceusref03_Scan.f
    constructor
    · rw [if_neg h0, if_pos hp, if_neg h34, pre_q, Option.bind_some, if_neg hx, b0_at]
      by_cases c45 : byt s.data.toList 0 = 45
      · rw [if_pos (by omega)]; exact i1 k (by omega)
      · rw [if_neg (by omega), if_pos (by omega), show decide (((byt s.data.toList 0 : Nat) : Int) ≤ 57) = true from decide_eq_true (by omega)]; exact i1 k (by omega)
    · rw [if_neg h0, if_pos hp, if_neg h34, pre_r, Option.bind_some, if_neg hx, b0_at]
      by_cases c45 : byt s.data.toList 0 = 45
      · rw [if_pos (by omega)]; exact i2 k (by omega)
      · rw [if_neg (by omega), if_pos (by omega), show decide (((byt s.data.toList 0 : Nat) : Int) ≤ 57) = true from decide_eq_true (by omega)]; exact i2 k (by omega)
  · have i1 : ∀ k, value_Scan.j0 (k + 10) s false = some (boolS s) := fun k => by
      rw [show k + 10 = k + 5 + 4 + 1 by omega, value_Scan.j0, if_neg (by decide), bool_q s (k + 5), Option.bind_some]
    have i2 : ∀ k, caduceusref03_Scan.j0 (k + 10) s false = some (boolS s) := fun k => by
      have j1f : ∀ k, caduceusref03_Scan.j1 (k + 6) s false = (if preB s (⟨#[102, 97, 108, 115, 101]⟩ : ByteArray) = true then (if goesB (s.data.toList.drop 5) = true then some (0, 0, (⟨#[]⟩ : ByteArray), (⟨#[]⟩ : ByteArray), 3) else some (3, 0, (⟨#[]⟩ : ByteArray), s.extract 5 s.size, 0)) else some (0, 0, (⟨#[]⟩ : ByteArray), (⟨#[]⟩ : ByteArray), 3)) := fun k => by
        rw [show k + 6 = k + 5 + 1 by omega, caduceusref03_Scan.j1, if_neg (by decide), pre_r, Option.bind_some]
        by_cases h : preB s (⟨#[102, 97, 108, 115, 101]⟩ : ByteArray) = true
        · have h5 : (5 : Int) ≤ (s.size : Int) := by have : 5 ≤ s.size := pre_size h; omega
          rw [if_pos h, if_pos h, if_pos h5, goes_r (s.extract 5 s.size) k, Option.bind_some, extract_toList]
        · rw [if_neg h, if_neg h]
      have bf : ∀ p : Bool, (p = true → False) → ∀ X : ScanR, (if preB s wFalse = true ∧ goesB (s.data.toList.drop 5) = false then (3, 0, ⟨#[]⟩, s.extract 5 s.size, 0) else (0, 0, ⟨#[]⟩, ⟨#[]⟩, 3)) = X → caduceusref03_Scan.j1 (k + 9) s p = some X := fun p hp X hX => by
        cases p with
        | true => exact absurd rfl hp
        | false =>
          rw [show k + 9 = k + 3 + 6 by omega, j1f, ← hX]
          unfold wFalse
          by_cases h : preB s (⟨#[102, 97, 108, 115, 101]⟩ : ByteArray) = true
          · rw [if_pos h]
            cases g : goesB (s.data.toList.drop 5) with
            | true => rw [if_pos rfl, if_neg (fun x => by cases x.2)]
            | false => rw [if_neg (by decide), if_pos ⟨h, rfl⟩]
          · rw [if_neg h, if_neg (fun x => h x.1)]
      rw [show k + 10 = k + 4 + 5 + 1 by omega, caduceusref03_Scan.j0, if_neg (by decide), pre_r, Option.bind_some]
      unfold boolS
      by_cases ht : preB s (⟨#[116, 114, 117, 101]⟩ : ByteArray) = true
      · have h4 : (4 : Int) ≤ (s.size : Int) := by have : 4 ≤ s.size := pre_size ht; omega
        rw [if_pos ht, if_pos h4, goes_r (s.extract 4 s.size) (k + 4), Option.bind_some, extract_toList]
        cases g : goesB (s.data.toList.drop 4) with
        | true =>
          rw [if_neg (fun x => by cases x.2)]
          exact bf _ (by decide) _ rfl
        | false =>
          rw [if_pos ⟨ht, rfl⟩, show k + 4 + 5 = k + 8 + 1 by omega, caduceusref03_Scan.j1, if_pos (by decide), if_pos h4]
      · rw [if_neg ht, if_neg (fun x => ht x.1)]
        exact bf _ (by decide) _ rfl
    refine ⟨boolS s, fun k hk => ?_⟩
    obtain ⟨k, rfl⟩ : ∃ q, k = q + 10 := ⟨k - 10, by omega⟩
    unfold value_Scan.f caduceusref03_Scan.f
    constructor
    · rw [if_neg h0, if_pos hp, if_neg h34, pre_q, Option.bind_some, if_neg hx, b0_at, if_neg (by omega)]
      by_cases c48 : ((byt s.data.toList 0 : Nat) : Int) ≥ 48
      · rw [if_pos c48, show decide (((byt s.data.toList 0 : Nat) : Int) ≤ 57) = false from decide_eq_false (by omega)]; exact i1 k
      · rw [if_neg c48]; exact i1 k
    · rw [if_neg h0, if_pos hp, if_neg h34, pre_r, Option.bind_some, if_neg hx, b0_at, if_neg (by omega)]
      by_cases c48 : ((byt s.data.toList 0 : Nat) : Int) ≥ 48
      · rw [if_pos c48, show decide (((byt s.data.toList 0 : Nat) : Int) ≤ 57) = false from decide_eq_false (by omega)]; exact i2 k
      · rw [if_neg c48]; exact i2 k
end Go.Proofs.YtoajlmmkkcelgaaDoor.U8
