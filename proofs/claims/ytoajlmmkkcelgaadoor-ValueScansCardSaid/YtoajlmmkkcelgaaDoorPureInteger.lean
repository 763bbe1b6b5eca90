import Derived.Test.YtoajlmmkkcelgaaDoorAx15
import Derived.Test.YtoajlmmkkcelgaaDoorAx6
import Derived.Test.YtoajlmmkkcelgaaDoorAx7
import Derived.Test.YtoajlmmkkcelgaaDoorPureGoes
namespace Go.Proofs.YtoajlmmkkcelgaaDoor.U8
open Go.RowKit Go.Proofs.YtoajlmmkkcelgaaDoor.A Go.Proofs.YtoajlmmkkcelgaaDoorW.PrintWords Go.Proofs.YtoajlmmkkcelgaaDoorW.PrintLast Go.Lib
set_option linter.unusedVariables false
set_option linter.unusedSimpArgs false
/-- How many digits stand at the front, and the number that they are. -/
def dg : List UInt8 → Nat
  | [] => 0
  | b :: l => if 48 ≤ b.toNat ∧ b.toNat ≤ 57 then dg l + 1 else 0
@[irreducible] def dv (a : Nat) (b : UInt8) : Nat := a * 10 + (b.toNat - 48)
theorem dv_eq (a : Nat) (b : UInt8) : dv a b = a * 10 + (b.toNat - 48) := by unfold dv; rfl
def nv (a : Nat) : List UInt8 → Nat
  | [] => a
  | b :: l => nv (dv a b) l
theorem dg_le : ∀ l, dg l ≤ l.length
  | [] => Nat.le_refl _
  | b :: l => by
    unfold dg
    have := dg_le l
    split
    · simp only [List.length_cons]; omega
    · omega
theorem nv_cons (a : Nat) (b : UInt8) (l : List UInt8) : nv a (b :: l) = nv (dv a b) l := rfl
theorem decF_cons (a : Nat) (b : UInt8) (l : List UInt8) (h : 48 ≤ b.toNat ∧ b.toNat ≤ 57) : decFrom a (b :: l) = decFrom (a * 10 + (b.toNat - 48)) l := by
  simp only [decFrom, digitVal, if_pos h]
theorem dg_pos (b : UInt8) (l : List UInt8) (h : 48 ≤ b.toNat ∧ b.toNat ≤ 57) : dg (b :: l) = dg l + 1 := by
  simp only [dg, if_pos h]
theorem dg_neg (b : UInt8) (l : List UInt8) (h : ¬ (48 ≤ b.toNat ∧ b.toNat ≤ 57)) : dg (b :: l) = 0 := by
  simp only [dg, if_neg h]
theorem dec_nv : ∀ (l : List UInt8) (a : Nat), decFrom a (l.take (dg l)) = some (nv a (l.take (dg l)))
  | [], a => rfl
  | b :: l, a => by
    by_cases h : 48 ≤ b.toNat ∧ b.toNat ≤ 57
    · rw [dg_pos b l h, List.take_succ_cons, decF_cons _ _ _ h, nv_cons, dv_eq]
      exact dec_nv l _
    · rw [dg_neg b l h]; rfl
theorem drop_at (l : List UInt8) (i : Nat) (h : i < l.length) : ∃ b, l.drop i = b :: l.drop (i + 1) ∧ byt l i = b.toNat := by
  refine ⟨l[i], List.drop_eq_getElem_cons h, ?_⟩
  unfold byt
  rw [List.getD_eq_getElem?_getD, List.getElem?_eq_getElem h]; rfl
theorem btq (s : ByteArray) (i : Nat) : bt s (i : Int) = (byt s.data.toList i : Int) := by
  have := bt_byt s (i : Int)
  rwa [Int.toNat_natCast] at this
theorem digits_l0 (s : ByteArray) (hs : s.size < 1000000) (k : Nat) : ∀ (m i : Nat), i ≤ s.size → s.size - i ≤ m → value_digits.l0 (k + m + 1) s (i : Int) = some ((i + dg (s.data.toList.drop i) : Nat) : Int)
  | m, i, h1, h2 => by
    have hl : s.data.toList.length = s.size := data_length s
    by_cases hi : i = s.size
    · rw [List.drop_of_length_le (by omega), value_digits.l0, if_neg (by omega)]; rfl
    · obtain ⟨m, rfl⟩ : ∃ q, m = q + 1 := ⟨m - 1, by omega⟩
      obtain ⟨b, hd, hb⟩ := drop_at s.data.toList i (by omega)
      have hlt := byt_lt s.data.toList i
      rw [value_digits.l0, if_pos (by omega), if_pos (by omega), btq, hd]
      unfold dg
      rw [← hb]
      by_cases h : 48 ≤ byt s.data.toList i ∧ byt s.data.toList i ≤ 57
      · rw [if_pos (by omega), if_pos (by omega), if_pos h, w64 (by omega) (by omega), show (i : Int) + 1 = ((i + 1 : Nat) : Int) by omega, show k + (m + 1) = k + m + 1 by omega, digits_l0 s hs k m (i + 1) (by omega) (by omega)]
        exact congrArg some (by omega)
      · rw [if_neg h]
        by_cases h3 : 48 ≤ byt s.data.toList i
        · rw [if_pos (by omega), if_neg (by omega)]; rfl
        · rw [if_neg (by omega)]; rfl
/-- What an integer's literal at the front is: the sign's place, how many digits, their number. -/
def intR (s : ByteArray) (at_ cnt n : Nat) : Int × Int × ByteArray × ByteArray × Int :=
  if cnt = 0 then (0, 0, ⟨#[]⟩, ⟨#[]⟩, 3)
  else if byt s.data.toList at_ = 48 ∧ (1 < cnt ∨ at_ = 1) then (0, 0, ⟨#[]⟩, ⟨#[]⟩, 3)
  else if 16 < cnt ∨ 9007199254740991 < n then (0, 0, ⟨#[]⟩, ⟨#[]⟩, 2)
  else (1, if at_ = 1 then -(n : Int) else (n : Int), ⟨#[]⟩, s.extract (at_ + cnt) s.size, 0)
theorem int_j3 (s : ByteArray) (hs : s.size < 1000000) (k at_ cnt n : Nat) (hat : at_ ≤ 1) (h : at_ + cnt ≤ s.size) (hn : n < 100000000000000000) :
    caduceusref03_integer.j3 (k + 2) s (at_ : Int) (n : Int) (cnt : Int) false = some (if 16 < cnt ∨ 9007199254740991 < n then (0, 0, ⟨#[]⟩, ⟨#[]⟩, 2) else (1, if at_ = 1 then -(n : Int) else (n : Int), ⟨#[]⟩, s.extract (at_ + cnt) s.size, 0)) := by
  rw [caduceusref03_integer.j3]
  simp only [Bool.false_eq_true, if_false]
  by_cases h1 : 16 < cnt
  · rw [if_pos (by omega), caduceusref03_integer.j4, if_pos rfl, if_pos (.inl h1)]
  rw [if_neg (by omega), caduceusref03_integer.j4]
  by_cases h2 : 9007199254740991 < n
  · rw [if_pos (decide_eq_true (by omega)), if_pos (.inr h2)]
  rw [if_neg (by simp; omega), w64 (x := (at_ : Int) + cnt) (by omega) (by omega), w64 (x := -(n : Int)) (by omega) (by omega), if_neg (show ¬ (16 < cnt ∨ 9007199254740991 < n) by omega)]
  have e : ((at_ : Int) + cnt).toNat = at_ + cnt := by omega
  by_cases h3 : at_ = 1
  · rw [if_pos (by omega), if_pos (by omega), if_pos (by omega), if_pos h3, e]
  · rw [if_neg (by omega), if_pos (by omega), if_pos (by omega), if_neg h3, e]
theorem int_j2 (s : ByteArray) (hs : s.size < 1000000) (k at_ cnt n : Nat) (p : Int) (hat : at_ ≤ 1) (h : at_ + cnt ≤ s.size) (hn : n < 100000000000000000) :
    caduceusref03_integer.j2 (k + 3) s (at_ : Int) (n : Int) (cnt : Int) p false = some (intR s at_ cnt n) := by
  unfold intR
  rw [caduceusref03_integer.j2]
  simp only [Bool.false_eq_true, if_false]
  have tr : caduceusref03_integer.j3 (k + 2) s (at_ : Int) (n : Int) (cnt : Int) true = some (0, 0, ⟨#[]⟩, ⟨#[]⟩, 3) := by
    rw [caduceusref03_integer.j3, if_pos rfl]
  by_cases h0 : cnt = 0
  · rw [if_pos (by omega), if_pos h0, tr]
  rw [if_neg (by omega), if_neg h0, if_pos (by omega), if_pos (by omega), btq]
  by_cases h1 : byt s.data.toList at_ = 48
  · rw [if_pos (by omega)]
    by_cases h2 : 1 < cnt
    · rw [if_pos (by omega), tr, if_pos ⟨h1, .inl h2⟩]
    · rw [if_neg (by omega)]
      by_cases h3 : at_ = 1
      · rw [show ((at_ : Int) == 1) = true by rw [beq_iff_eq]; omega, tr, if_pos ⟨h1, .inr h3⟩]
      · rw [show ((at_ : Int) == 1) = false by rw [beq_eq_false_iff_ne]; omega, int_j3 s hs k at_ cnt n hat h hn, if_neg (show ¬ (byt s.data.toList at_ = 48 ∧ (1 < cnt ∨ at_ = 1)) by omega)]
  · rw [if_neg (by omega), int_j3 s hs k at_ cnt n hat h hn, if_neg (show ¬ (byt s.data.toList at_ = 48 ∧ (1 < cnt ∨ at_ = 1)) from fun z => h1 z.1)]
theorem int_l0 (s : ByteArray) (hs : s.size < 1000000) (k at_ : Nat) (hat : at_ ≤ 1) : ∀ (m cnt n : Nat), at_ + cnt ≤ s.size → s.size - (at_ + cnt) ≤ m → n < 100000000000000000 → (cnt < 17 → n < 10 ^ cnt) →
    ∃ nF, caduceusref03_integer.l0 (k + 2 * m + 4) s (at_ : Int) (n : Int) (cnt : Int) ((at_ + cnt : Nat) : Int) = some (intR s at_ (cnt + dg (s.data.toList.drop (at_ + cnt))) nF) ∧ (cnt + dg (s.data.toList.drop (at_ + cnt)) ≤ 16 → nF = nv n ((s.data.toList.drop (at_ + cnt)).take (dg (s.data.toList.drop (at_ + cnt)))))
  | m, cnt, n, h1, h2, h3, h4 => by
    have hl : s.data.toList.length = s.size := data_length s
    by_cases hi : at_ + cnt = s.size
    · have e : s.data.toList.drop (at_ + cnt) = [] := List.drop_of_length_le (by omega)
      rw [e]
      refine ⟨n, ?_, fun _ => rfl⟩
      rw [caduceusref03_integer.l0, if_neg (by omega)]
      exact int_j2 s hs (k + 2 * m) at_ cnt n _ hat (by omega) h3
    · obtain ⟨m, rfl⟩ : ∃ q, m = q + 1 := ⟨m - 1, by omega⟩
      obtain ⟨b, hd, hb⟩ := drop_at s.data.toList (at_ + cnt) (by omega)
      have hlt := byt_lt s.data.toList (at_ + cnt)
      rw [hd]
      by_cases h : 48 ≤ byt s.data.toList (at_ + cnt) ∧ byt s.data.toList (at_ + cnt) ≤ 57
      · rw [dg_pos b _ (by omega), List.take_succ_cons, nv_cons]
        have step : ∀ n', n' < 100000000000000000 → (cnt + 1 < 17 → n' < 10 ^ (cnt + 1)) → (cnt < 17 → n' = dv n b) → caduceusref03_integer.l0 (k + 2 * (m + 1) + 4) s (at_ : Int) (n : Int) (cnt : Int) ((at_ + cnt : Nat) : Int) = caduceusref03_integer.l0 (k + 2 * m + 4) s (at_ : Int) (n' : Int) ((cnt + 1 : Nat) : Int) ((at_ + (cnt + 1) : Nat) : Int) →
            ∃ nF, caduceusref03_integer.l0 (k + 2 * (m + 1) + 4) s (at_ : Int) (n : Int) (cnt : Int) ((at_ + cnt : Nat) : Int) = some (intR s at_ (cnt + (dg (s.data.toList.drop (at_ + cnt + 1)) + 1)) nF) ∧ (cnt + (dg (s.data.toList.drop (at_ + cnt + 1)) + 1) ≤ 16 → nF = nv (dv n b) ((s.data.toList.drop (at_ + cnt + 1)).take (dg (s.data.toList.drop (at_ + cnt + 1))))) := by
          intro n' a1 a2 a3 a4
          obtain ⟨nF, e1, e2⟩ := int_l0 s hs k at_ hat m (cnt + 1) n' (by omega) (by omega) a1 a2
          rw [show at_ + (cnt + 1) = at_ + cnt + 1 by omega] at e1 e2 a4
          refine ⟨nF, ?_, fun hh => ?_⟩
          · rw [a4, e1, show cnt + 1 + dg (s.data.toList.drop (at_ + cnt + 1)) = cnt + (dg (s.data.toList.drop (at_ + cnt + 1)) + 1) by omega]
          · rw [e2 (by omega), a3 (by omega)]
        by_cases hc : cnt < 17
        · have hp := h4 hc
          have p1 : 10 ^ (cnt + 1) = 10 * 10 ^ cnt := by rw [Nat.pow_succ]; omega
          have p2 : 10 ^ (cnt + 1) ≤ 10 ^ 17 := Nat.pow_le_pow_right (by decide) (by omega)
          have p3 : 10 ^ 17 = 100000000000000000 := by decide
          rw [p3] at p2
          refine step (n * 10 + (b.toNat - 48)) (by omega) (by omega) (fun _ => (dv_eq n b).symm) ?_
          rw [show k + 2 * (m + 1) + 4 = k + 2 * m + 4 + 1 + 1 by omega, caduceusref03_integer.l0, if_pos (by omega), if_pos (by omega), btq, if_pos (by omega), show decide (((byt s.data.toList (at_ + cnt) : Nat) : Int) ≤ 57) = true from decide_eq_true (by omega)]
          rw [caduceusref03_integer.j2, if_pos rfl, if_pos (by omega), if_pos (by omega), if_pos (by omega), btq]
          rw [w64 (x := 10 * (n : Int)) (by omega) (by omega), w64 (x := ((byt s.data.toList (at_ + cnt) : Nat) : Int)) (by omega) (by omega), w64 (x := 10 * (n : Int) + ((byt s.data.toList (at_ + cnt) : Nat) : Int)) (by omega) (by omega), w64 (x := 10 * (n : Int) + ((byt s.data.toList (at_ + cnt) : Nat) : Int) - 48) (by omega) (by omega), w64 (x := (cnt : Int) + 1) (by omega) (by omega), w64 (x := ((at_ + cnt : Nat) : Int) + 1) (by omega) (by omega)]
          congr 1 <;> omega
        · refine step n (by omega) (by omega) (fun z => absurd z hc) ?_
          rw [show k + 2 * (m + 1) + 4 = k + 2 * m + 4 + 1 + 1 by omega, caduceusref03_integer.l0, if_pos (by omega), if_pos (by omega), btq, if_pos (by omega), show decide (((byt s.data.toList (at_ + cnt) : Nat) : Int) ≤ 57) = true from decide_eq_true (by omega)]
          rw [caduceusref03_integer.j2, if_pos rfl, if_neg (by omega), w64 (x := (cnt : Int) + 1) (by omega) (by omega), w64 (x := ((at_ + cnt : Nat) : Int) + 1) (by omega) (by omega)]
          congr 1
      · rw [dg_neg b _ (by omega)]
        refine ⟨n, ?_, fun _ => rfl⟩
        have fl : caduceusref03_integer.j2 (k + 2 * (m + 1) + 3) s (at_ : Int) (n : Int) (cnt : Int) ((at_ + cnt : Nat) : Int) false = some (intR s at_ (cnt + 0) n) := int_j2 s hs (k + 2 * (m + 1)) at_ cnt n _ hat (by omega) h3
        rw [show k + 2 * (m + 1) + 4 = k + 2 * (m + 1) + 3 + 1 by omega, caduceusref03_integer.l0, if_pos (by omega), if_pos (by omega), btq]
        by_cases h5 : 48 ≤ byt s.data.toList (at_ + cnt)
        · rw [if_pos (by omega), show decide (((byt s.data.toList (at_ + cnt) : Nat) : Int) ≤ 57) = false from decide_eq_false (by omega), fl]
        · rw [if_neg (by omega), fl]
/-- Is there a sign? -/
def sg (s : ByteArray) : Nat := if byt s.data.toList 0 = 45 then 1 else 0
theorem int_r (s : ByteArray) (hs : s.size < 1000000) (hz : s.size ≠ 0) (k : Nat) :
    ∃ nF, caduceusref03_integer.f (k + 2 * s.size + 5) s = some (intR s (sg s) (dg (s.data.toList.drop (sg s))) nF) ∧ (dg (s.data.toList.drop (sg s)) ≤ 16 → nF = nv 0 ((s.data.toList.drop (sg s)).take (dg (s.data.toList.drop (sg s))))) := by
  have e0 : bt s 0 = byt s.data.toList 0 := bt_byt s 0
  have h1 : sg s ≤ 1 := by unfold sg; split <;> omega
  obtain ⟨nF, e1, e2⟩ := int_l0 s hs k (sg s) h1 s.size 0 0 (by omega) (by omega) (by omega) (fun _ => by decide)
  simp only [Nat.add_zero, Nat.zero_add] at e1 e2
  refine ⟨nF, ?_, e2⟩
  rw [← e1]
  unfold caduceusref03_integer.f
  rw [if_pos (by omega), e0]
  unfold sg
  by_cases h : byt s.data.toList 0 = 45
  · rw [if_pos (by omega), if_pos h, show k + 2 * s.size + 5 = k + 2 * s.size + 4 + 1 by omega, caduceusref03_integer.j0]; rfl
  · rw [if_neg (by omega), if_neg h, show k + 2 * s.size + 5 = k + 2 * s.size + 4 + 1 by omega, caduceusref03_integer.j0]; rfl
theorem pre_one (s : ByteArray) (hz : s.size ≠ 0) (c : UInt8) : preB s ⟨#[c]⟩ = true ↔ byt s.data.toList 0 = c.toNat := by
  unfold preB
  have z : (⟨#[c]⟩ : ByteArray).size = 1 := rfl
  rw [z, if_pos (by omega), beq_iff_eq, ByteArray.toList_eq, ByteArray.toList_eq, ByteArray.data_extract, Array.toList_extract]
  have e : (s.data.toList.extract 0 1) = s.data.toList.take 1 := by simp [List.extract]
  rw [e]
  have hl : s.data.toList.length = s.size := data_length s
  obtain ⟨b, hd, hb⟩ := drop_at s.data.toList 0 (by omega)
  rw [List.drop_zero] at hd
  rw [hb]
  rw [hd]
  show [b] = [c] ↔ _
  constructor
  · intro h; rw [List.cons.inj h |>.1]
  · intro h; rw [UInt8.toNat_inj.1 h]
theorem trim_q (s : ByteArray) (hz : s.size ≠ 0) : strings_TrimPrefix.f s (⟨#[45]⟩ : ByteArray) = some (s.extract (sg s) s.size) := by
  unfold strings_TrimPrefix.f stringslite_TrimPrefix.f sg
  rw [pre_l]
  have z : (⟨#[45]⟩ : ByteArray).size = 1 := rfl
  have hp := pre_one s hz 45
  simp only [Option.bind_some, z]
  by_cases h : byt s.data.toList 0 = 45
  · rw [if_pos (hp.2 h), if_pos (by omega), if_pos (by omega), if_pos h]; rfl
  · rw [if_neg (fun x => h (hp.1 x)), if_neg h]
    have : s.extract 0 s.size = s := ByteArray.extract_zero_size
    rw [this]; rfl
theorem atoi_at (s : ByteArray) (c : Nat) (hc : c = dg (s.data.toList.drop (sg s))) (h1 : 1 ≤ c) (h16 : c ≤ 16) :
    strconv_Atoi.f (s.extract 0 (sg s + c)) = some ((if sg s = 1 then -((nv 0 ((s.data.toList.drop (sg s)).take c) : Nat) : Int) else ((nv 0 ((s.data.toList.drop (sg s)).take c) : Nat) : Int)), none) := by
  have hl : s.data.toList.length = s.size := data_length s
  have hd := dg_le (s.data.toList.drop (sg s))
  rw [← hc, List.length_drop] at hd
  have hsg : sg s ≤ 1 := by unfold sg; split <;> omega
  have hsz : (s.extract 0 (sg s + c)).size = sg s + c := by rw [ByteArray.size_extract]; omega
  have hto : (s.extract 0 (sg s + c)).data.toList = s.data.toList.take (sg s + c) := by
    rw [ByteArray.data_extract, Array.toList_extract]; simp [List.extract]
  unfold strconv_Atoi.f
  rw [if_pos (by omega), hto]
  have dn : ∀ r : List UInt8, r = (s.data.toList.drop (sg s)).take c → decNat r = some (nv 0 ((s.data.toList.drop (sg s)).take c)) := by
    intro r hr
    subst hr
    unfold decNat
    rw [if_neg (by
      intro h
      rw [List.isEmpty_iff] at h
      have := congrArg List.length h
      rw [List.length_take, List.length_drop, List.length_nil] at this
      omega)]
    have := dec_nv (s.data.toList.drop (sg s)) 0
    rw [← hc] at this
    exact this
  by_cases h : byt s.data.toList 0 = 45
  · have e1 : sg s = 1 := by unfold sg; rw [if_pos h]
    obtain ⟨b, hb, hb2⟩ := drop_at s.data.toList 0 (by omega)
    rw [List.drop_zero] at hb
    have e : s.data.toList.take (sg s + c) = b :: (s.data.toList.drop (sg s)).take c := by
      rw [e1, Nat.add_comm, hb, List.take_succ_cons]; rfl
    have hb45 : (b == 45) = true := by rw [beq_iff_eq, ← UInt8.toNat_inj, ← hb2, h]; rfl
    rw [e]
    unfold atoi
    simp only [hb45, if_true]
    rw [dn _ rfl, if_pos e1]; rfl
  · have e1 : sg s = 0 := by unfold sg; rw [if_neg h]
    have e : s.data.toList.take (sg s + c) = (s.data.toList.drop (sg s)).take c := by rw [e1, Nat.zero_add, List.drop_zero]
    obtain ⟨b, hb, hb2⟩ := drop_at s.data.toList 0 (by omega)
    rw [List.drop_zero] at hb
    rw [e]
    have dn' := dn _ rfl
    have hdig : 48 ≤ b.toNat ∧ b.toNat ≤ 57 := by
      rw [e1, List.drop_zero, hb] at hc
      by_cases hh : 48 ≤ b.toNat ∧ b.toNat ≤ 57
      · exact hh
      · rw [dg_neg b _ hh] at hc; omega
    obtain ⟨c', rfl⟩ : ∃ q, c = q + 1 := ⟨c - 1, by omega⟩
    have e2 : (s.data.toList.drop (sg s)).take (c' + 1) = b :: (s.data.toList.drop 1).take c' := by
      rw [e1, List.drop_zero]
      conv => lhs; rw [hb]
      rw [List.take_succ_cons]
    rw [e2] at dn' ⊢
    have hb45 : (b == 45) = false := by rw [beq_eq_false_iff_ne]; intro hx; rw [hx] at hdig; exact absurd hdig.1 (by decide)
    have hb43 : (b == 43) = false := by rw [beq_eq_false_iff_ne]; intro hx; rw [hx] at hdig; exact absurd hdig.1 (by decide)
    unfold atoi
    simp only [hb45, hb43, Bool.false_eq_true, if_false]
    rw [dn', if_neg (by omega)]; rfl
theorem int_q (s : ByteArray) (hs : s.size < 1000000) (hz : s.size ≠ 0) (k nF : Nat) (hn : dg (s.data.toList.drop (sg s)) ≤ 16 → nF = nv 0 ((s.data.toList.drop (sg s)).take (dg (s.data.toList.drop (sg s))))) :
    value_integer.f (k + s.size + 2) s = some (intR s (sg s) (dg (s.data.toList.drop (sg s))) nF) := by
  have hl : s.data.toList.length = s.size := data_length s
  have hsg : sg s ≤ 1 := by unfold sg; split <;> omega
  have hd := dg_le (s.data.toList.drop (sg s))
  rw [List.length_drop] at hd
  have htl : (s.extract (sg s) s.size).data.toList = s.data.toList.drop (sg s) := extract_toList s (sg s)
  have hts : (s.extract (sg s) s.size).size = s.size - sg s := by rw [ByteArray.size_extract]; omega
  unfold value_integer.f
  rw [trim_q s hz]
  simp only [Option.bind_some]
  have dl := digits_l0 (s.extract (sg s) s.size) (by omega) (k + sg s + 1) (s.size - sg s) 0 (by omega) (by omega)
  rw [List.drop_zero, htl, show k + sg s + 1 + (s.size - sg s) + 1 = k + s.size + 2 by omega, Nat.zero_add] at dl
  unfold value_digits.f
  rw [show ((0 : Nat) : Int) = 0 from rfl] at dl
  rw [dl]
  simp only [Option.bind_some]
  rw [hts, w64 (x := (s.size : Int) - ((s.size - sg s : Nat) : Int)) (by omega) (by omega), w64 (by omega) (by omega)]
  have b0 : bt (s.extract (sg s) s.size) 0 = byt s.data.toList (sg s) := by
    have := bt_byt (s.extract (sg s) s.size) 0
    rw [this, htl]
    show ((byt (s.data.toList.drop (sg s)) 0 : Nat) : Int) = _
    unfold byt
    rw [List.getD_eq_getElem?_getD, List.getD_eq_getElem?_getD, List.getElem?_drop]; rfl
  rw [b0]
  generalize hc : dg (s.data.toList.drop (sg s)) = c at *
  rw [show ((s.size : Int) - ((s.size - sg s : Nat) : Int) + (c : Int)) = ((sg s + c : Nat) : Int) by omega]
  have tr : value_integer.j0 (k + s.size + 2) s (c : Int) ((sg s + c : Nat) : Int) true = some (0, 0, ⟨#[]⟩, ⟨#[]⟩, 3) := by
    rw [value_integer.j0, if_pos rfl]
  have fl : ∀ b : Bool, b = false → 1 ≤ c → value_integer.j0 (k + s.size + 2) s (c : Int) ((sg s + c : Nat) : Int) b = some (if 16 < c ∨ 9007199254740991 < nF then (0, 0, ⟨#[]⟩, ⟨#[]⟩, 2) else (1, if sg s = 1 then -(nF : Int) else (nF : Int), ⟨#[]⟩, s.extract (sg s + c) s.size, 0)) := by
    intro b hb h1
    subst hb
    rw [value_integer.j0]
    simp only [Bool.false_eq_true, if_false]
    by_cases h2 : 16 < c
    · rw [if_pos (by omega), if_pos (.inl h2)]
    rw [if_neg (by omega), if_pos (by omega), if_pos (by omega), Int.toNat_natCast, atoi_at s c hc.symm h1 (by omega)]
    rw [← hn (by omega)]
    simp only [Option.bind_some]
    by_cases h3 : sg s = 1
    · simp only [h3, if_true]
      by_cases h4 : 9007199254740991 < nF
      · rw [if_neg (by omega), if_pos (by omega), if_pos (.inr h4)]
      · rw [if_neg (by omega), if_neg (by omega), if_neg (by omega)]
    · simp only [h3, if_false]
      by_cases h4 : 9007199254740991 < nF
      · rw [if_pos (by omega), if_pos (.inr h4)]
      · rw [if_neg (by omega), if_neg (by omega), if_neg (by omega)]
  unfold intR
  by_cases h0 : c = 0
  · rw [if_pos (by omega), tr, if_pos h0]
  rw [if_neg (by omega), if_neg h0, if_pos (by omega)]
  by_cases h1 : byt s.data.toList (sg s) = 48
  · rw [if_pos (by omega)]
    by_cases h2 : 1 < c
    · rw [if_pos (by omega), tr, if_pos ⟨h1, .inl h2⟩]
    · rw [if_neg (by omega)]
      by_cases h3 : sg s = 1
      · rw [show decide (((s.size - sg s : Nat) : Int) < (s.size : Int)) = true from decide_eq_true (by omega), tr, if_pos ⟨h1, .inr h3⟩]
      · rw [fl _ (decide_eq_false (by omega)) (by omega), if_neg (show ¬ (byt s.data.toList (sg s) = 48 ∧ (1 < c ∨ sg s = 1)) by omega)]
  · rw [if_neg (by omega), fl _ rfl (by omega), if_neg (show ¬ (byt s.data.toList (sg s) = 48 ∧ (1 < c ∨ sg s = 1)) from fun z => h1 z.1)]
/-- An integer's literal: the same by both. -/
theorem int_ev (s : ByteArray) (hs : s.size < 1000000) (hz : s.size ≠ 0) (k : Nat) : ∃ r, value_integer.f (k + s.size + 2) s = some r ∧ caduceusref03_integer.f (k + 2 * s.size + 5) s = some r := by
  obtain ⟨nF, e1, e2⟩ := int_r s hs hz k
  exact ⟨_, int_q s hs hz k nF e2, e1⟩
end Go.Proofs.YtoajlmmkkcelgaaDoor.U8
