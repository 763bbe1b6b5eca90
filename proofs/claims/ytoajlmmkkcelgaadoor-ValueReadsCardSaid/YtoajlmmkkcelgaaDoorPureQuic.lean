import Derived.Test.YtoajlmmkkcelgaaDoorAx16
import Derived.Test.YtoajlmmkkcelgaaDoorAx26
import Derived.Test.YtoajlmmkkcelgaaDoorAx27
import Derived.Test.YtoajlmmkkcelgaaDoorAx28
import Derived.Test.YtoajlmmkkcelgaaDoorPureFirst
import Derived.Lib.Bytes
namespace Go.Proofs.YtoajlmmkkcelgaaDoor.U8
open Go.RowKit Go.Proofs.YtoajlmmkkcelgaaDoor.A Go.Proofs.YtoajlmmkkcelgaaDoorW.PrintWords Go.Proofs.YtoajlmmkkcelgaaDoorW.PrintLast Go.Lib
set_option linter.unusedVariables false
set_option linter.unusedSimpArgs false
theorem or8 (n b : Int) (h0 : 0 ≤ n) (h1 : n < 18014398509481984) (b0 : 0 ≤ b) (b1 : b < 256) : Go.bits .or .i64 (n * 256) b = 256 * n + b := by
  have h := bits_join .i64 63 (by decide) (fun n h0 h1 => by have e : (2 : Int) ^ 63 = 9223372036854775808 := by decide
                                                             rw [e] at h1; rw [IntKind.wrap_i64]; omega) 8 (n * 256) b (by omega) (by have e : (2 : Int) ^ 8 = 256 := by decide
                                                                                                                                      rw [e]; omega) (by have e : (2 : Int) ^ 63 = 9223372036854775808 := by decide
                                                                                                                                                         rw [e]; omega) b0 (by have e : (2 : Int) ^ 8 = 256 := by decide
                                                                                                                                                                               rw [e]; omega) (by have e : (2 : Int) ^ 63 = 9223372036854775808 := by decide
                                                                                                                                                                                                  rw [e]; omega)
  rw [h]; omega
theorem and63 (b : Int) (b0 : 0 ≤ b) (b1 : b < 256) : Go.bits .and .u8 b 63 = b % 64 := by
  have h : ∀ n : Fin 256, Go.bits .and .u8 (n.val : Int) 63 = (n.val : Int) % 64 := by decide +kernel
  have := h ⟨b.toNat, by omega⟩
  simp only at this
  rw [Int.toNat_of_nonneg b0] at this
  exact this
/-- The number of the first bytes, the first one without its two upper bits. -/
def be (l : List UInt8) : Nat → Nat
  | 0 => byt l 0 % 64
  | i + 1 => 256 * be l i + byt l (i + 1)
theorem be_lt (l : List UInt8) : ∀ i, be l i < 64 * 256 ^ i
  | 0 => by show byt l 0 % 64 < _; omega
  | i + 1 => by
    have h := be_lt l i
    have b := byt_lt l (i + 1)
    show 256 * be l i + byt l (i + 1) < _
    rw [Nat.pow_succ]
    generalize 256 ^ i = P at *
    omega
theorem be_small (l : List UInt8) (i : Nat) (h : i ≤ 6) : be l i < 18014398509481984 := by
  have h1 := be_lt l i
  have h2 : 256 ^ i ≤ 256 ^ 6 := Nat.pow_le_pow_right (by decide) h
  have e : 256 ^ 6 = 281474976710656 := by decide
  rw [e] at h2
  omega
theorem be_max (l : List UInt8) (i : Nat) (h : i ≤ 7) : be l i ≤ 4611686018427387903 := by
  have h1 := be_lt l i
  have h2 : 256 ^ i ≤ 256 ^ 7 := Nat.pow_le_pow_right (by decide) h
  have e : 256 ^ 7 = 72057594037927936 := by decide
  rw [e] at h2
  omega
theorem btb (s : ByteArray) (i : Nat) : bt s (i : Int) = (byt s.data.toList i : Int) := by
  have := bt_byt s (i : Int)
  rwa [Int.toNat_natCast] at this
theorem qloop (s : ByteArray) (sz : Nat) (hz : sz ≤ 8) (hs : sz ≤ s.size) (k : Nat) : ∀ m i, sz = i + 1 + m →
    quic_Get.l0 (k + m) s (be s.data.toList i : Int) (sz : Int) ((i + 1 : Nat) : Int) = quic_Get.l0 k s (be s.data.toList (sz - 1) : Int) (sz : Int) (sz : Int)
  | 0, i, h => by rw [show sz - 1 = i by omega, show i + 1 = sz by omega]; rfl
  | m + 1, i, h => by
    have h1 := be_small s.data.toList i (by omega)
    have h2 := byt_lt s.data.toList (i + 1)
    have ih := qloop s sz hz hs k m (i + 1) (by omega)
    show quic_Get.l0 (k + m + 1) s _ _ _ = _
    rw [quic_Get.l0, if_pos (by omega), if_pos (by omega), if_pos (by omega), btb, w64 (x := (be s.data.toList i : Int) * 256) (by omega) (by omega), w64 (x := ((byt s.data.toList (i + 1) : Nat) : Int)) (by omega) (by omega), or8 _ _ (by omega) (by omega) (by omega) (by omega), w64 (by omega) (by omega)]
    rw [← ih]
    show _ = quic_Get.l0 (k + m) s ((256 * be s.data.toList i + byt s.data.toList (i + 1) : Nat) : Int) _ _
    congr 1
theorem rloop (s : ByteArray) (sz : Nat) (hz : sz ≤ 8) (hs : sz ≤ s.size) (k : Nat) : ∀ m i, sz = i + 1 + m →
    caduceusref01_Get.l1 (k + m) s (sz : Int) (be s.data.toList i : Int) ((i + 1 : Nat) : Int) = caduceusref01_Get.l1 k s (sz : Int) (be s.data.toList (sz - 1) : Int) (sz : Int)
  | 0, i, h => by rw [show sz - 1 = i by omega, show i + 1 = sz by omega]; rfl
  | m + 1, i, h => by
    have h1 := be_small s.data.toList i (by omega)
    have h2 := byt_lt s.data.toList (i + 1)
    have ih := rloop s sz hz hs k m (i + 1) (by omega)
    show caduceusref01_Get.l1 (k + m + 1) s _ _ _ = _
    rw [caduceusref01_Get.l1, if_pos (by omega), if_pos (by omega), if_pos (by omega), btb, w64 (x := 256 * (be s.data.toList i : Int)) (by omega) (by omega), w64 (x := ((byt s.data.toList (i + 1) : Nat) : Int)) (by omega) (by omega), w64 (x := 256 * (be s.data.toList i : Int) + _) (by omega) (by omega), w64 (by omega) (by omega)]
    rw [← ih]
    show _ = caduceusref01_Get.l1 (k + m) s _ ((256 * be s.data.toList i + byt s.data.toList (i + 1) : Nat) : Int) _
    congr 1
/-- How many bytes a number has that may be written. -/
def szOf (n : Nat) : Nat := if n < 64 then 1 else if n < 16384 then 2 else if n < 1073741824 then 4 else 8
theorem qsize (n : Nat) (h : n ≤ 4611686018427387903) (k : Nat) : quic_Size.f (k + 1) (n : Int) = some (szOf n : Int) := by
  unfold quic_Size.f szOf
  rw [if_neg (by omega), quic_Size.j0, if_neg (by simp; omega)]
  have e1 : wrap64 (1 * 2) = 2 := by unfold wrap64; omega
  have e2 : wrap64 (2 * 2) = 4 := by unfold wrap64; omega
  have e3 : wrap64 (4 * 2) = 8 := by unfold wrap64; omega
  rw [e1, e2, e3]
  by_cases h1 : n < 64
  · rw [if_neg (by omega), if_neg (by omega), if_neg (by omega), if_pos h1]; rfl
  by_cases h2 : n < 16384
  · rw [if_neg (by omega), if_neg (by omega), if_pos (by omega), if_neg h1, if_pos h2]; rfl
  by_cases h3 : n < 1073741824
  · rw [if_neg (by omega), if_pos (by omega), if_neg h1, if_neg h2, if_pos h3]; rfl
  · rw [if_pos (by omega), if_neg h1, if_neg h2, if_neg h3]; rfl
theorem rsize (n : Nat) (h : n ≤ 4611686018427387903) (k : Nat) : caduceusref01_Size.f (k + 1) (n : Int) = some (szOf n : Int) := by
  unfold caduceusref01_Size.f szOf
  rw [if_neg (by omega), caduceusref01_Size.j0, if_neg (by simp; omega)]
  by_cases h1 : n < 64
  · rw [if_pos (by omega), if_pos h1]; rfl
  by_cases h2 : n < 16384
  · rw [if_neg (by omega), if_pos (by omega), if_neg h1, if_pos h2]; rfl
  by_cases h3 : n < 1073741824
  · rw [if_neg (by omega), if_neg (by omega), if_pos (by omega), if_neg h1, if_neg h2, if_pos h3]; rfl
  · rw [if_neg (by omega), if_neg (by omega), if_neg (by omega), if_neg h1, if_neg h2, if_neg h3]; rfl
/-- A number's bytes. -/
def numB (n : Nat) : List Int :=
  if n < 64 then [(n : Int)]
  else if n < 16384 then [((n / 256 + 64 : Nat) : Int), ((n % 256 : Nat) : Int)]
  else if n < 1073741824 then [((n / 16777216 + 128 : Nat) : Int), ((n / 65536 % 256 : Nat) : Int), ((n / 256 % 256 : Nat) : Int), ((n % 256 : Nat) : Int)]
  else [((n / 72057594037927936 + 192 : Nat) : Int), ((n / 281474976710656 % 256 : Nat) : Int), ((n / 1099511627776 % 256 : Nat) : Int), ((n / 4294967296 % 256 : Nat) : Int), ((n / 16777216 % 256 : Nat) : Int), ((n / 65536 % 256 : Nat) : Int), ((n / 256 % 256 : Nat) : Int), ((n % 256 : Nat) : Int)]
theorem nstep (n sz : Nat) (h : n ≤ 4611686018427387903) (L : List Int) (hL : L.length < 100) (j : Nat) (hj : j ≤ 7) (P : Nat) (hP : P = 2 ^ (8 * j)) (J K : Int) (hJ : J = j) (hK : K = (j : Int) - 1) (k : Nat) :
    caduceusref01_Num.l0 (k + 1) (n : Int) (sz : Int) L J = caduceusref01_Num.l0 k (n : Int) (sz : Int) (L ++ [((n / P % 256 : Nat) : Int)]) K := by
  subst hJ hK
  have e : IntKind.u64.wrap (wrap64 (8 * (j : Int))) = ((8 * j : Nat) : Int) := by
    rw [w64 (by omega) (by omega), IntKind.wrap_u64]; omega
  have e2 : IntKind.u64.wrap (n : Int) = (n : Int) := by rw [IntKind.wrap_u64]; omega
  have e3 : shr .u64 (n : Int) ((8 * j : Nat) : Int) = ((n / P : Nat) : Int) := by
    unfold shr
    rw [Int.toNat_natCast, Nat.min_eq_left (by show 8 * j ≤ 64; omega), hP, Int.natCast_ediv]
    congr 1
  rw [caduceusref01_Num.l0, if_pos (by omega), e, if_pos (by omega), if_pos (by omega), e2, e3, w64 (by omega) (by omega), Int.natCast_emod]
  rfl
theorem rnum (n : Nat) (h : n ≤ 4611686018427387903) (k : Nat) : caduceusref01_Num.f (k + 12) (n : Int) = some (strOfNums (numB n)) := by
  unfold caduceusref01_Num.f
  rw [rsize n h (k + 11)]
  simp only [Option.bind_some]
  unfold szOf numB
  by_cases h1 : n < 64
  · rw [if_pos h1, if_pos h1, show wrap64 (((1 : Nat) : Int) - 1) = 0 by unfold wrap64; omega, nstep n 1 h [] (by decide) 0 (by decide) 1 (by decide) 0 (-1) rfl (by omega)]
    rw [caduceusref01_Num.l0, if_neg (by omega), if_neg (by omega), caduceusref01_Num.j1, if_neg (by omega), if_neg (by omega)]
    rw [show n / 1 % 256 = n by omega]; rfl
  by_cases h2 : n < 16384
  · rw [if_neg h1, if_neg h1, if_pos h2, if_pos h2, show wrap64 (((2 : Nat) : Int) - 1) = 1 by unfold wrap64; omega, nstep n 2 h [] (by decide) 1 (by decide) 256 (by decide) 1 0 rfl (by omega), nstep n 2 h _ (by simp) 0 (by decide) 1 (by decide) 0 (-1) rfl (by omega)]
    rw [caduceusref01_Num.l0, if_neg (by omega), if_pos (by omega), if_pos (by simp), caduceusref01_Num.j1, if_neg (by omega), if_neg (by omega)]
    have e : (((n / 256 % 256 : Nat) : Int) + 64) % 256 = ((n / 256 + 64 : Nat) : Int) := by omega
    show some (strOfNums [(((n / 256 % 256 : Nat) : Int) + 64) % 256, ((n / 1 % 256 : Nat) : Int)]) = _
    rw [e, show n / 1 % 256 = n % 256 by omega]
  by_cases h3 : n < 1073741824
  · rw [if_neg h1, if_neg h1, if_neg h2, if_neg h2, if_pos h3, if_pos h3, show wrap64 (((4 : Nat) : Int) - 1) = 3 by unfold wrap64; omega, nstep n 4 h [] (by decide) 3 (by decide) 16777216 (by decide) 3 2 rfl (by omega), nstep n 4 h _ (by simp) 2 (by decide) 65536 (by decide) 2 1 rfl (by omega), nstep n 4 h _ (by simp) 1 (by decide) 256 (by decide) 1 0 rfl (by omega), nstep n 4 h _ (by simp) 0 (by decide) 1 (by decide) 0 (-1) rfl (by omega)]
    rw [caduceusref01_Num.l0, if_neg (by omega), if_neg (by omega), caduceusref01_Num.j1, if_pos (by omega), if_pos (by simp)]
    have e : (((n / 16777216 % 256 : Nat) : Int) + 128) % 256 = ((n / 16777216 + 128 : Nat) : Int) := by omega
    simp only [Option.bind_some]
    rw [if_neg (by omega)]
    show some (strOfNums [(((n / 16777216 % 256 : Nat) : Int) + 128) % 256, ((n / 65536 % 256 : Nat) : Int), ((n / 256 % 256 : Nat) : Int), ((n / 1 % 256 : Nat) : Int)]) = _
    rw [e, show n / 1 % 256 = n % 256 by omega]
  · rw [if_neg h1, if_neg h1, if_neg h2, if_neg h2, if_neg h3, if_neg h3, show wrap64 (((8 : Nat) : Int) - 1) = 7 by unfold wrap64; omega, nstep n 8 h [] (by decide) 7 (by decide) 72057594037927936 (by decide) 7 6 rfl (by omega), nstep n 8 h _ (by simp) 6 (by decide) 281474976710656 (by decide) 6 5 rfl (by omega), nstep n 8 h _ (by simp) 5 (by decide) 1099511627776 (by decide) 5 4 rfl (by omega), nstep n 8 h _ (by simp) 4 (by decide) 4294967296 (by decide) 4 3 rfl (by omega), nstep n 8 h _ (by simp) 3 (by decide) 16777216 (by decide) 3 2 rfl (by omega), nstep n 8 h _ (by simp) 2 (by decide) 65536 (by decide) 2 1 rfl (by omega), nstep n 8 h _ (by simp) 1 (by decide) 256 (by decide) 1 0 rfl (by omega), nstep n 8 h _ (by simp) 0 (by decide) 1 (by decide) 0 (-1) rfl (by omega)]
    rw [caduceusref01_Num.l0, if_neg (by omega), if_neg (by omega), caduceusref01_Num.j1, if_neg (by omega), if_pos (by omega), if_pos (by simp)]
    have e : (((n / 72057594037927936 % 256 : Nat) : Int) + 192) % 256 = ((n / 72057594037927936 + 192 : Nat) : Int) := by omega
    show some (strOfNums [(((n / 72057594037927936 % 256 : Nat) : Int) + 192) % 256, ((n / 281474976710656 % 256 : Nat) : Int), ((n / 1099511627776 % 256 : Nat) : Int), ((n / 4294967296 % 256 : Nat) : Int), ((n / 16777216 % 256 : Nat) : Int), ((n / 65536 % 256 : Nat) : Int), ((n / 256 % 256 : Nat) : Int), ((n / 1 % 256 : Nat) : Int)]) = _
    rw [e, show n / 1 % 256 = n % 256 by omega]
theorem numB_len (n : Nat) : (numB n).length = szOf n := by
  unfold numB szOf
  repeat' split
  all_goals rfl
theorem szOf_cases (n : Nat) : (n < 64 ∧ szOf n = 1) ∨ (64 ≤ n ∧ n < 16384 ∧ szOf n = 2) ∨ (16384 ≤ n ∧ n < 1073741824 ∧ szOf n = 4) ∨ (1073741824 ≤ n ∧ szOf n = 8) := by
  unfold szOf
  repeat' split
  all_goals omega
theorem ofb (x : Int) (b : UInt8) (h : x = (b.toNat : Int)) : UInt8.ofNat x.toNat = b := by
  rw [h, Int.toNat_natCast, UInt8.ofNat_toNat]
theorem lcons {l : List UInt8} {n : Nat} (h : n + 1 ≤ l.length) : ∃ b t, l = b :: t ∧ n ≤ t.length := by
  cases l with
  | nil => simp at h
  | cons b t => exact ⟨b, t, rfl, by simpa using h⟩
theorem numKey (l : List UInt8) (sz : Nat) (hsz : sz = 2 ^ (byt l 0 / 64)) (hl : sz ≤ l.length) : Go.Lib.bytesOf (numB (be l (sz - 1))) = l.take sz ↔ szOf (be l (sz - 1)) = sz := by
  constructor
  · intro h
    have := congrArg List.length h
    unfold Go.Lib.bytesOf at this
    rw [List.length_map, numB_len, List.length_take, Nat.min_eq_left hl] at this
    exact this
  · intro h
    have hb := byt_lt l 0
    have hc : byt l 0 / 64 = 0 ∨ byt l 0 / 64 = 1 ∨ byt l 0 / 64 = 2 ∨ byt l 0 / 64 = 3 := by omega
    have hz := szOf_cases (be l (sz - 1))
    have p0 : (2 : Nat) ^ 0 = 1 := by decide
    have p1 : (2 : Nat) ^ 1 = 2 := by decide
    have p2 : (2 : Nat) ^ 2 = 4 := by decide
    have p3 : (2 : Nat) ^ 3 = 8 := by decide
    rcases hc with hc | hc | hc | hc <;> rw [hc] at hsz <;> simp only [p0, p1, p2, p3] at hsz <;> subst hsz
    · obtain ⟨b0, t, rfl, q0⟩ := lcons (n := 0) hl
      have e : be (b0 :: t) (1 - 1) = b0.toNat := by
        have : byt (b0 :: t) 0 = b0.toNat := rfl
        show byt (b0 :: t) 0 % 64 = _
        omega
      rw [e] at hz h ⊢
      unfold numB
      rw [if_pos (by omega)]
      show [UInt8.ofNat _] = [b0]
      rw [ofb _ b0 rfl]
    · obtain ⟨b0, t, rfl, q0⟩ := lcons (n := 1) hl
      obtain ⟨b1, t, rfl, q1⟩ := lcons (n := 0) q0
      have e0 : b0.toNat / 64 = 1 := hc
      have e : be (b0 :: b1 :: t) (2 - 1) = 256 * (b0.toNat % 64) + b1.toNat := rfl
      have g0 := UInt8.toNat_lt b0
      have g1 := UInt8.toNat_lt b1
      rw [e] at hz h ⊢
      unfold numB
      rw [if_neg (by omega), if_pos (by omega)]
      show [UInt8.ofNat _, UInt8.ofNat _] = [b0, b1]
      rw [ofb _ b0 (by omega), ofb _ b1 (by omega)]
    · obtain ⟨b0, t, rfl, q0⟩ := lcons (n := 3) hl
      obtain ⟨b1, t, rfl, q1⟩ := lcons (n := 2) q0
      obtain ⟨b2, t, rfl, q2⟩ := lcons (n := 1) q1
      obtain ⟨b3, t, rfl, q3⟩ := lcons (n := 0) q2
      have e0 : b0.toNat / 64 = 2 := hc
      have e : be (b0 :: b1 :: b2 :: b3 :: t) (4 - 1) = 256 * (256 * (256 * (b0.toNat % 64) + b1.toNat) + b2.toNat) + b3.toNat := rfl
      have g0 := UInt8.toNat_lt b0
      have g1 := UInt8.toNat_lt b1
      have g2 := UInt8.toNat_lt b2
      have g3 := UInt8.toNat_lt b3
      rw [e] at hz h ⊢
      unfold numB
      rw [if_neg (by omega), if_neg (by omega), if_pos (by omega)]
      show [UInt8.ofNat _, UInt8.ofNat _, UInt8.ofNat _, UInt8.ofNat _] = [b0, b1, b2, b3]
      rw [ofb _ b0 (by omega), ofb _ b1 (by omega), ofb _ b2 (by omega), ofb _ b3 (by omega)]
    · obtain ⟨b0, t, rfl, q0⟩ := lcons (n := 7) hl
      obtain ⟨b1, t, rfl, q1⟩ := lcons (n := 6) q0
      obtain ⟨b2, t, rfl, q2⟩ := lcons (n := 5) q1
      obtain ⟨b3, t, rfl, q3⟩ := lcons (n := 4) q2
      obtain ⟨b4, t, rfl, q4⟩ := lcons (n := 3) q3
      obtain ⟨b5, t, rfl, q5⟩ := lcons (n := 2) q4
      obtain ⟨b6, t, rfl, q6⟩ := lcons (n := 1) q5
      obtain ⟨b7, t, rfl, q7⟩ := lcons (n := 0) q6
      have e0 : b0.toNat / 64 = 3 := hc
      have e : be (b0 :: b1 :: b2 :: b3 :: b4 :: b5 :: b6 :: b7 :: t) (8 - 1) = 256 * (256 * (256 * (256 * (256 * (256 * (256 * (b0.toNat % 64) + b1.toNat) + b2.toNat) + b3.toNat) + b4.toNat) + b5.toNat) + b6.toNat) + b7.toNat := rfl
      have g0 := UInt8.toNat_lt b0
      have g1 := UInt8.toNat_lt b1
      have g2 := UInt8.toNat_lt b2
      have g3 := UInt8.toNat_lt b3
      have g4 := UInt8.toNat_lt b4
      have g5 := UInt8.toNat_lt b5
      have g6 := UInt8.toNat_lt b6
      have g7 := UInt8.toNat_lt b7
      rw [e] at hz h ⊢
      unfold numB
      rw [if_neg (by omega), if_neg (by omega), if_neg (by omega)]
      show [UInt8.ofNat _, UInt8.ofNat _, UInt8.ofNat _, UInt8.ofNat _, UInt8.ofNat _, UInt8.ofNat _, UInt8.ofNat _, UInt8.ofNat _] = [b0, b1, b2, b3, b4, b5, b6, b7]
      rw [ofb _ b0 (by omega), ofb _ b1 (by omega), ofb _ b2 (by omega), ofb _ b3 (by omega), ofb _ b4 (by omega), ofb _ b5 (by omega), ofb _ b6 (by omega), ofb _ b7 (by omega)]
/-- The number at the front of bytes: the number, what is left, the error. -/
def getS (s : ByteArray) : Int × ByteArray × Int :=
  if s.size = 0 then (0, ⟨#[]⟩, 7)
  else if s.size < 2 ^ (byt s.data.toList 0 / 64) then (0, ⟨#[]⟩, 7)
  else if szOf (be s.data.toList (2 ^ (byt s.data.toList 0 / 64) - 1)) = 2 ^ (byt s.data.toList 0 / 64) then ((be s.data.toList (2 ^ (byt s.data.toList 0 / 64) - 1) : Int), s.extract (2 ^ (byt s.data.toList 0 / 64)) s.size, 0)
  else (0, ⟨#[]⟩, 3)
theorem shlc (c : Nat) (h : c ≤ 3) : shl .i64 1 (c : Int) = ((2 ^ c : Nat) : Int) := by
  have : c = 0 ∨ c = 1 ∨ c = 2 ∨ c = 3 := by omega
  rcases this with rfl | rfl | rfl | rfl <;> decide
theorem pow_le8 (c : Nat) (h : c ≤ 3) : 1 ≤ 2 ^ c ∧ 2 ^ c ≤ 8 := by
  have : c = 0 ∨ c = 1 ∨ c = 2 ∨ c = 3 := by omega
  rcases this with rfl | rfl | rfl | rfl <;> decide
theorem qget (s : ByteArray) (hs : s.size < 1000000) (k : Nat) : quic_Get.f (k + 12) s = some (getS s) := by
  have hb := byt_lt s.data.toList 0
  have e0 : bt s 0 = byt s.data.toList 0 := bt_byt s 0
  have hp := pow_le8 (byt s.data.toList 0 / 64) (by omega)
  have e2 : shl .i64 1 ((byt s.data.toList 0 : Int) / 64) = ((2 ^ (byt s.data.toList 0 / 64) : Nat) : Int) := by
    have := shlc (byt s.data.toList 0 / 64) (by omega)
    rwa [Int.natCast_ediv] at this
  unfold quic_Get.f getS
  by_cases hz : s.size = 0
  · rw [if_pos ((toList_nil s).2 hz), if_pos hz]
  rw [if_neg (fun h => hz ((toList_nil s).1 h)), if_neg hz, if_pos (by omega), e0, if_pos (by omega), e2, and63 _ (by omega) (by omega)]
  generalize hsz : 2 ^ (byt s.data.toList 0 / 64) = sz at *
  by_cases hl : s.size < sz
  · rw [if_pos (by omega), if_pos hl]
  rw [if_neg (by omega), if_neg hl, w64 (by omega) (by omega)]
  have ql := qloop s sz hp.2 (by omega) (k + 12 - (sz - 1)) (sz - 1) 0 (by omega)
  rw [show k + 12 - (sz - 1) + (sz - 1) = k + 12 by omega] at ql
  have e3 : ((be s.data.toList 0 : Nat) : Int) = (byt s.data.toList 0 : Int) % 64 := rfl
  rw [← e3]
  refine ql.trans ?_
  obtain ⟨q, hq⟩ : ∃ q, k + 12 - (sz - 1) = q + 1 + 1 := ⟨k + 12 - (sz - 1) - 2, by omega⟩
  rw [hq, quic_Get.l0, if_neg (by omega), qsize _ (be_max _ _ (by omega)) q]
  simp only [Option.bind_some]
  by_cases hf : szOf (be s.data.toList (sz - 1)) = sz
  · rw [if_pos (by omega), if_pos (by omega), if_pos (by omega), if_pos hf, Int.toNat_natCast]
  · rw [if_neg (by omega), if_neg hf]
theorem rdbl (s : ByteArray) (hz : s.size ≠ 0) (k : Nat) : caduceusref01_Get.l0 (k + 4) s 1 0 = (if (s.size : Int) < ((2 ^ (byt s.data.toList 0 / 64) : Nat) : Int) then some (0, ⟨#[]⟩, ⟨#[]⟩, 7) else caduceusref01_Get.l1 (k + 3 - byt s.data.toList 0 / 64) s ((2 ^ (byt s.data.toList 0 / 64) : Nat) : Int) (be s.data.toList 0 : Int) 1) := by
  have hb := byt_lt s.data.toList 0
  have e0 : bt s 0 = byt s.data.toList 0 := bt_byt s 0
  have et : (Int.tdiv (byt s.data.toList 0 : Int) 64) % 256 = ((byt s.data.toList 0 / 64 : Nat) : Int) := by
    rw [Int.tdiv_eq_ediv_of_nonneg (by omega)]; omega
  have em : wrap64 (Int.tmod (byt s.data.toList 0 : Int) 64) = (be s.data.toList 0 : Int) := by
    show _ = ((byt s.data.toList 0 % 64 : Nat) : Int)
    rw [Int.tmod_eq_emod_of_nonneg (by omega), w64 (by omega) (by omega)]; omega
  have w1 : wrap64 (2 * 1) = 2 := by unfold wrap64; omega
  have w2 : wrap64 (2 * 2) = 4 := by unfold wrap64; omega
  have w4 : wrap64 (2 * 4) = 8 := by unfold wrap64; omega
  have v1 : wrap64 (0 + 1) = 1 := by unfold wrap64; omega
  have v2 : wrap64 (1 + 1) = 2 := by unfold wrap64; omega
  have v3 : wrap64 (2 + 1) = 3 := by unfold wrap64; omega
  have hc : byt s.data.toList 0 / 64 = 0 ∨ byt s.data.toList 0 / 64 = 1 ∨ byt s.data.toList 0 / 64 = 2 ∨ byt s.data.toList 0 / 64 = 3 := by omega
  rcases hc with hc | hc | hc | hc
  · rw [caduceusref01_Get.l0, if_pos (by omega), e0, et, em, hc, if_neg (by omega)]; rfl
  · rw [caduceusref01_Get.l0, if_pos (by omega), e0, et, hc, if_pos (by omega), w1, v1]
    rw [caduceusref01_Get.l0, if_pos (by omega), e0, et, em, hc, if_neg (by omega)]; rfl
  · rw [caduceusref01_Get.l0, if_pos (by omega), e0, et, hc, if_pos (by omega), w1, v1]
    rw [caduceusref01_Get.l0, if_pos (by omega), e0, et, hc, if_pos (by omega), w2, v2]
    rw [caduceusref01_Get.l0, if_pos (by omega), e0, et, em, hc, if_neg (by omega)]; rfl
  · rw [caduceusref01_Get.l0, if_pos (by omega), e0, et, hc, if_pos (by omega), w1, v1]
    rw [caduceusref01_Get.l0, if_pos (by omega), e0, et, hc, if_pos (by omega), w2, v2]
    rw [caduceusref01_Get.l0, if_pos (by omega), e0, et, hc, if_pos (by omega), w4, v3]
    rw [caduceusref01_Get.l0, if_pos (by omega), e0, et, em, hc, if_neg (by omega)]; rfl
theorem ext0 (s : ByteArray) (n : Nat) (h : n ≤ s.size) : (s.extract 0 n).toList = s.data.toList.take n := by
  rw [ByteArray.toList_eq, ByteArray.data_extract, Array.toList_extract]
  simp [List.extract]
theorem rget (s : ByteArray) (hs : s.size < 1000000) (k : Nat) : caduceusref01_Get.f (k + 30) s = some ((getS s).1, ⟨#[]⟩, (getS s).2.1, (getS s).2.2) := by
  have hb := byt_lt s.data.toList 0
  have hp := pow_le8 (byt s.data.toList 0 / 64) (by omega)
  unfold caduceusref01_Get.f getS
  by_cases hz : s.size = 0
  · rw [if_pos ((toList_nil s).2 hz), if_pos hz]
  rw [if_neg (fun h => hz ((toList_nil s).1 h)), if_neg hz, show k + 30 = k + 26 + 4 by omega, rdbl s hz (k + 26)]
  generalize hsz : 2 ^ (byt s.data.toList 0 / 64) = sz at *
  by_cases hl : s.size < sz
  · rw [if_pos (by omega), if_pos hl]
  rw [if_neg (by omega), if_neg hl]
  generalize hK : k + 26 + 3 - byt s.data.toList 0 / 64 = K
  have ql := rloop s sz hp.2 (by omega) (K - (sz - 1)) (sz - 1) 0 (by omega)
  rw [show K - (sz - 1) + (sz - 1) = K by omega] at ql
  refine ql.trans ?_
  obtain ⟨q, hq⟩ : ∃ q, K - (sz - 1) = q + 12 + 1 := ⟨K - (sz - 1) - 13, by omega⟩
  rw [hq, caduceusref01_Get.l1, if_neg (by omega), rnum _ (be_max _ _ (by omega)) q]
  simp only [Option.bind_some]
  rw [if_pos (by omega), if_pos (by omega), Int.toNat_natCast, ext0 s sz (by omega), strOfNums_toList]
  have nk := numKey s.data.toList sz hsz.symm (by rw [data_length]; omega)
  by_cases hf : szOf (be s.data.toList (sz - 1)) = sz
  · rw [if_pos (nk.2 hf), if_pos hf]
  · rw [if_neg (fun h => hf (nk.1 h)), if_neg hf]
end Go.Proofs.YtoajlmmkkcelgaaDoor.U8
