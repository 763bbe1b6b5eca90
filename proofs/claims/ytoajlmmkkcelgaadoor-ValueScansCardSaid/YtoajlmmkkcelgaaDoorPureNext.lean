import Derived.Test.YtoajlmmkkcelgaaDoorAx2
import Derived.Test.YtoajlmmkkcelgaaDoorAx3
import Derived.Test.YtoajlmmkkcelgaaDoorAx4
import Derived.Test.YtoajlmmkkcelgaaDoorPureText
namespace Go.Proofs.YtoajlmmkkcelgaaDoor.U8
open Go.RowKit Go.Proofs.YtoajlmmkkcelgaaDoor.A Go.Proofs.YtoajlmmkkcelgaaDoorW.PrintWords Go.Proofs.YtoajlmmkkcelgaaDoorW.PrintLast Go.Lib
set_option linter.unusedVariables false
set_option linter.unusedSimpArgs false
theorem or4 (n b : Int) (h0 : 0 ≤ n) (h1 : n < 1000000000) (b0 : 0 ≤ b) (b1 : b < 16) : Go.bits .or .i64 (wrap64 (n * 16)) b = 16 * n + b := by
  rw [w64 (by omega) (by omega)]
  have e63 : (2 : Int) ^ 63 = 9223372036854775808 := by decide
  have e4 : (2 : Int) ^ 4 = 16 := by decide
  have h := bits_join .i64 63 (by decide) (fun n h0 h1 => by rw [e63] at h1; rw [IntKind.wrap_i64]; omega) 4 (n * 16) b (by omega) (by rw [e4]; omega) (by rw [e63]; omega) b0 (by rw [e4]; omega) (by rw [e63]; omega)
  rw [h]; omega
/-- What the digits' loop answers, whatever stands there. -/
def okR (X : Option (Int × Int)) (b : Int) : Prop := ∃ r1 r2, X = some (r1, r2) ∧ 0 ≤ r1 ∧ r1 ≤ 1114111 ∧ 0 ≤ r2 ∧ r2 ≤ b
theorem okR_no (b : Int) (h : 0 ≤ b) : okR (some (0, 0)) b := ⟨0, 0, rfl, by omega, by omega, by omega, h⟩
theorem okR_ite {c : Prop} [Decidable c] {A B : Option (Int × Int)} {b : Int} (h : c → okR A b) (k : ¬ c → okR B b) : okR (if c then A else B) b := by
  by_cases e : c
  · rw [if_pos e]; exact h e
  · rw [if_neg e]; exact k e
theorem num_done (i : Nat) (n : Int) (hi : i ≤ 6) (n0 : 0 ≤ n) (h : ¬ n > 1114111) : okR (some (wrap32 n, wrap64 ((i : Int) + 1))) 7 := by
  have w1 : wrap64 ((i : Int) + 1) = ((i + 1 : Nat) : Int) := by rw [w64 (by omega) (by omega)]; omega
  exact ⟨_, _, rfl, by unfold wrap32; omega, by unfold wrap32; omega, by rw [w1]; omega, by rw [w1]; omega⟩
theorem num_fin (s : ByteArray) (i : Nat) (n : Int) (hi : i ≤ 6) (hz : i < s.size) (n0 : 0 ≤ n) :
    okR (if (i : Int) = 0 then (some (0, 0)) else (if (i : Int) = (s.size : Int) then (some (0, 0)) else (if bt s (i : Int) = 125 then (if 0 < (s.size : Int) then (if (bt s 0) = 48 then (if (i : Int) > 1 then (some (0, 0)) else (if n > 1114111 then (some (0, 0)) else (some (wrap32 (n), wrap64 ((i : Int) + 1))))) else (if n > 1114111 then (some (0, 0)) else (some (wrap32 (n), wrap64 ((i : Int) + 1))))) else (none)) else (some (0, 0))))) 7 := by
  have no := okR_no 7 (by omega)
  have big : okR (if n > 1114111 then (some (0, 0)) else (some (wrap32 (n), wrap64 ((i : Int) + 1)))) 7 := okR_ite (fun _ => no) (fun h => num_done i n hi n0 h)
  refine okR_ite (fun _ => no) (fun _ => okR_ite (fun _ => no) (fun _ => okR_ite (fun _ => ?_) (fun _ => no)))
  rw [if_pos (by omega)]
  exact okR_ite (fun _ => okR_ite (fun _ => no) (fun _ => big)) (fun _ => big)
theorem num_end (s : ByteArray) (k i : Nat) (n : Int) (hi : i ≤ 6) (hz : i ≤ s.size) (n0 : 0 ≤ n) (hs : i = 6 ∨ i = s.size ∨ hexV (byt s.data.toList i) < 0) : okR (value_numbered.l0 (k + 1) s n (i : Int)) 7 := by
  have no := okR_no 7 (by omega)
  rw [value_numbered.l0]
  by_cases hlt : i < s.size
  · have fin := num_fin s i n hi hlt n0
    rw [if_pos (by omega)]
    by_cases h6 : i < 6
    · have v : hexV (byt s.data.toList i) < 0 := by omega
      rw [if_pos (by omega), if_pos (by omega), btq s i, digit_q _ (byt_lt _ _), Option.bind_some, if_neg (by omega), ← btq s i]
      exact fin
    · rw [if_neg (by omega), if_neg (by omega), if_neg (by omega), if_pos (by omega)]
      rw [if_neg (by omega), if_neg (by omega)] at fin
      exact fin
  · rw [if_neg (by omega)]
    exact okR_ite (fun _ => no) (fun _ => by rw [if_pos (by omega)]; exact no)
theorem num_step (u : ByteArray) (k i : Nat) (n v : Int) (hi : i < 6) (hz : i < u.size) (hv : hexV (byt u.data.toList i) = v) (v0 : 0 ≤ v) (n0 : 0 ≤ n) (n1 : n < 1000000000) :
    value_numbered.l0 (k + 1) u n (i : Int) = value_numbered.l0 k u (16 * n + v) ((i + 1 : Nat) : Int) := by
  have g := byt_lt u.data.toList i
  have w1 : wrap64 ((i : Int) + 1) = ((i + 1 : Nat) : Int) := by rw [w64 (by omega) (by omega)]; omega
  have v1 := hexV_lt (byt u.data.toList i)
  rw [value_numbered.l0, if_pos (by omega), if_pos (by omega), if_pos (by omega), btq, digit_q _ g, Option.bind_some]
  rw [hv, if_pos v0, Option.bind_some, or4 n v n0 n1 v0 (by omega), w1]
theorem num_tot (s : ByteArray) (hs : s.size < 1000000) (k : Nat) : ∀ (m i n : Nat), i + m = 6 → i ≤ s.size → n < 16 ^ i → okR (value_numbered.l0 (k + m + 1) s (n : Int) (i : Int)) 7
  | 0, i, n, hm, hz, h1 => num_end s (k + 0) i n (by omega) hz (by omega) (by omega)
  | m + 1, i, n, hm, hz, h1 => by
    by_cases hb : i = s.size ∨ hexV (byt s.data.toList i) < 0
    · exact num_end s (k + (m + 1)) i n (by omega) hz (by omega) (by omega)
    · have hp : 16 ^ i ≤ 16 ^ 6 := Nat.pow_le_pow_right (by decide) (by omega)
      have e6 : 16 ^ 6 = 16777216 := by decide
      rw [e6] at hp
      have v := hexV_lt (byt s.data.toList i)
      rw [num_step s (k + (m + 1)) i n _ (by omega) (by omega) rfl (by omega) (by omega) (by omega)]
      have e : 16 * (n : Int) + hexV (byt s.data.toList i) = ((16 * n + (hexV (byt s.data.toList i)).toNat : Nat) : Int) := by omega
      rw [e, show k + (m + 1) = k + m + 1 by omega]
      exact num_tot s hs k m (i + 1) _ (by omega) (by omega) (by rw [Nat.pow_succ]; omega)
theorem esc_tot (t : ByteArray) (ht : t.size < 1000000) (k : Nat) : okR (value_escaped.f (k + 9) t) 9 := by
  have no := okR_no 9 (by omega)
  have yes : ∀ c : Int, 0 ≤ c → c ≤ 1114111 → okR (some (c, 1)) 9 := fun c h0 h1 => ⟨c, 1, rfl, h0, h1, by omega, by omega⟩
  unfold value_escaped.f
  by_cases h0 : t.toList = ([] : List UInt8)
  · rw [if_pos h0]; exact no
  have hz : t.size ≠ 0 := fun h => h0 ((toList_nil t).2 h)
  rw [if_neg h0, if_pos (by omega)]
  have g := byt_lt t.data.toList 0
  have j1 : ∀ b, 2 ≤ t.size ∨ b = false → okR (value_escaped.j1 (k + 8) t b) 9 := by
    intro b hb
    rw [value_escaped.j1]
    cases b
    · rw [if_neg (by decide)]; exact no
    · have h2 : 2 ≤ t.size := hb.resolve_right (by decide)
      rw [if_pos rfl, if_pos (by omega)]
      unfold value_numbered.f
      obtain ⟨r1, r2, h, a1, a2, a3, a4⟩ := num_tot (t.extract 2 t.size) (by rw [ByteArray.size_extract]; omega) k 6 0 0 rfl (by omega) (by decide)
      rw [show value_numbered.l0 (k + 7) (t.extract 2 t.size) 0 0 = some (r1, r2) from h, Option.bind_some]
      have w2 : wrap64 (r2 + 2) = r2 + 2 := w64 (by omega) (by omega)
      refine okR_ite (fun _ => ?_) (fun _ => ⟨_, _, rfl, a1, a2, a3, by omega⟩)
      exact ⟨_, _, rfl, a1, a2, by rw [w2]; omega, by rw [w2]; omega⟩
  have wb : wrap32 (bt t 0) = (byt t.data.toList 0 : Int) := by
    rw [show bt t 0 = _ from btq t 0]; unfold wrap32; omega
  have j0 : ∀ b, okR (value_escaped.j0 (k + 9) t (bt t 0) b) 9 := by
    intro b
    rw [value_escaped.j0]
    cases b
    · rw [if_neg (by decide)]
      refine okR_ite (fun _ => yes 10 (by omega) (by omega)) (fun _ => okR_ite (fun _ => yes 9 (by omega) (by omega)) (fun _ => okR_ite (fun _ => yes 13 (by omega) (by omega)) (fun _ => okR_ite (fun _ => okR_ite (fun h => ?_) (fun _ => j1 _ (.inr rfl))) (fun _ => no))))
      rw [if_pos (by omega)]
      exact j1 _ (.inl (by omega))
    · rw [if_pos rfl, if_pos (by omega), wb]; exact yes _ (by omega) (by omega)
  exact okR_ite (fun _ => j0 _) (fun _ => j0 _)
theorem num_last (u : ByteArray) (k i : Nat) (n : Int) (h1 : 1 ≤ i) (hi : i < 6) (hz : i < u.size) (h125 : byt u.data.toList i = 125) (h48 : byt u.data.toList 0 = 48 → i ≤ 1) (n0 : 0 ≤ n) (n1 : n ≤ 1114111) :
    value_numbered.l0 (k + 1) u n (i : Int) = some (n, ((i + 1 : Nat) : Int)) := by
  have w1 : wrap64 ((i : Int) + 1) = ((i + 1 : Nat) : Int) := by rw [w64 (by omega) (by omega)]; omega
  have w2 : wrap32 n = n := by unfold wrap32; omega
  have b0 : bt u 0 = (byt u.data.toList 0 : Int) := btq u 0
  rw [value_numbered.l0, if_pos (by omega), if_pos (by omega), if_pos (by omega), btq, digit_q _ (byt_lt _ _), h125, b0, Option.bind_some]
  rw [if_neg (by decide), if_neg (by omega), if_neg (by omega), if_pos (show ((125 : Nat) : Int) = 125 from rfl), if_pos (by omega), w1, w2]
  by_cases c : ((byt u.data.toList 0 : Nat) : Int) = 48
  · rw [if_pos c, if_neg (by have := h48 (by omega); omega), if_neg (by omega)]
  · rw [if_neg c, if_neg (by omega)]
/-- A written rune is read. -/
theorem esc_c (s : ByteArray) (c : Int) (hc : isCtl c = true) (hp : preB s (escB c) = true) (k : Nat) :
    value_escaped.f (k + 9) (s.extract 1 s.size) = some (c, ((escB c).size : Int) - 1) := by
  have hr := isCtl_lt c hc
  have hz := ((pre_iff _ _).1 hp).1
  have at1 : ∀ j, 1 + j < (escB c).size → bt (s.extract 1 s.size) (j : Int) = (byt (escB c).data.toList (1 + j) : Int) := fun j hj => by rw [bt_ext, pre_at hp _ hj]
  have at3 : ∀ j, 3 + j < (escB c).size → byt ((s.extract 1 s.size).extract 2 (s.extract 1 s.size).size).data.toList j = byt (escB c).data.toList (3 + j) := fun j hj => by
    rw [ext_ext, extract_toList, byt_drop, pre_at hp _ hj]
  have tz : (s.extract 1 s.size).size = s.size - 1 := by rw [ByteArray.size_extract]; omega
  have uz : ((s.extract 1 s.size).extract 2 (s.extract 1 s.size).size).size = s.size - 3 := by rw [ByteArray.size_extract, tz]; omega
  have two := fun n : Fin 128 => (by decide +kernel : ∀ n : Fin 128, isCtl (n.val : Int) = true → 2 ≤ (escB (n.val : Int)).size) n
  have two' := two ⟨c.toNat, by omega⟩
  simp only [Int.toNat_of_nonneg hr.1] at two'
  have z2 := two' hc
  generalize hT : s.extract 1 s.size = t at *
  have hne : ¬ t.toList = [] := fun h => by have := (toList_nil _).1 h; omega
  have b0 := at1 0 (by omega)
  unfold value_escaped.f
  rw [if_neg hne, if_pos (by omega)]
  by_cases cA : c = 34 ∨ c = 92
  · have e : (byt (escB c).data.toList (1 + 0) : Int) = c ∧ ((escB c).size : Int) - 1 = 1 := by rcases cA with rfl | rfl <;> decide +kernel
    rw [show bt t 0 = c from b0.trans e.1, e.2]
    have j : ∀ b, b = true → value_escaped.j0 (k + 9) t c b = some (c, 1) := fun b hb => by
      rw [value_escaped.j0, if_pos hb, if_pos (by omega), show bt t 0 = c from b0.trans e.1]
      congr 2
      unfold wrap32; omega
    rcases cA with h | h
    · rw [if_pos h]; exact j _ (by rw [h]; rfl)
    · rw [if_neg (by omega)]; exact j _ (by rw [h]; rfl)
  by_cases cB : c = 9 ∨ c = 10 ∨ c = 13
  · rcases cB with rfl | rfl | rfl
    · rw [show bt t 0 = 116 from b0.trans (by decide +kernel)]
      rw [if_neg (by decide), value_escaped.j0, if_neg (by decide), if_neg (by decide), if_pos rfl]
      decide +kernel
    · rw [show bt t 0 = 110 from b0.trans (by decide +kernel)]
      rw [if_neg (by decide), value_escaped.j0, if_neg (by decide), if_pos rfl]
      decide +kernel
    · rw [show bt t 0 = 114 from b0.trans (by decide +kernel)]
      rw [if_neg (by decide), value_escaped.j0, if_neg (by decide), if_neg (by decide), if_neg (by decide), if_pos rfl]
      decide +kernel
  have hN : ∀ X : Option (Int × Int), 5 ≤ (escB c).size → byt (escB c).data.toList 1 = 117 → byt (escB c).data.toList 2 = 123 → value_numbered.l0 (k + 7) (t.extract 2 t.size) 0 0 = some (c, ((escB c).size : Int) - 3) → (if bt t 0 = 34 then value_escaped.j0 (k + 9) t (bt t 0) (bt t 0 == 34) else value_escaped.j0 (k + 9) t (bt t 0) (bt t 0 == 92)) = some (c, ((escB c).size : Int) - 1) := by
    intro _ h5 e1 e2 e3
    have b1 := at1 1 (by omega)
    have b1' : bt t 1 = 123 := b1.trans (by rw [show 1 + 1 = 2 from rfl, e2]; rfl)
    rw [show bt t 0 = 117 from b0.trans (by rw [show 1 + 0 = 1 from rfl, e1]; rfl)]
    rw [if_neg (by decide), value_escaped.j0, if_neg (by decide), if_neg (by decide), if_neg (by decide), if_neg (by decide), if_pos rfl, if_pos (by omega), if_pos (by omega), b1', value_escaped.j1, if_pos (show ((123 : Int) == 123) = true from rfl), if_pos (by omega)]
    unfold value_numbered.f
    rw [e3, Option.bind_some]
    have le6 := escB_le c
    rw [if_pos (by omega), w64 (by omega) (by omega)]
    congr 2
    omega
  by_cases cC : c < 16
  · have all : ∀ n : Fin 16, n.val ≠ 9 → n.val ≠ 10 → n.val ≠ 13 → (escB (n.val : Int)).size = 5 ∧ byt (escB (n.val : Int)).data.toList 1 = 117 ∧ byt (escB (n.val : Int)).data.toList 2 = 123 ∧ hexV (byt (escB (n.val : Int)).data.toList 3) = n.val ∧ byt (escB (n.val : Int)).data.toList 4 = 125 := by decide +kernel
    have a := all ⟨c.toNat, by omega⟩
    simp only [Int.toNat_of_nonneg hr.1] at a
    obtain ⟨a1, a2, a3, a4, a5⟩ := a (by omega) (by omega) (by omega)
    refine hN none (by omega) a2 a3 ?_
    have s0 := num_step (t.extract 2 t.size) (k + 6) 0 0 c (by omega) (by omega) (by rw [at3 0 (by omega)]; exact a4) hr.1 (by omega) (by omega)
    have s1 := num_last (t.extract 2 t.size) (k + 5) 1 c (by omega) (by omega) (by omega) (by rw [at3 1 (by omega)]; exact a5) (fun _ => by omega) hr.1 (by omega)
    rw [show k + 7 = k + 6 + 1 by omega]
    refine s0.trans ?_
    rw [show 16 * 0 + c = c by omega, show k + 6 = k + 5 + 1 by omega]
    refine s1.trans ?_
    rw [a1]; rfl
  · have hcc : 16 ≤ c ∧ c < 32 ∨ c = 127 := by
      unfold isCtl at hc
      simp only [Bool.or_eq_true, decide_eq_true_eq, beq_iff_eq] at hc
      omega
    have all : ∀ n : Fin 128, (16 ≤ n.val ∧ n.val < 32 ∨ n.val = 127) → (escB (n.val : Int)).size = 6 ∧ byt (escB (n.val : Int)).data.toList 1 = 117 ∧ byt (escB (n.val : Int)).data.toList 2 = 123 ∧ hexV (byt (escB (n.val : Int)).data.toList 3) = (n.val / 16 : Nat) ∧ hexV (byt (escB (n.val : Int)).data.toList 4) = (n.val % 16 : Nat) ∧ byt (escB (n.val : Int)).data.toList 5 = 125 ∧ byt (escB (n.val : Int)).data.toList 3 ≠ 48 := by decide +kernel
    have a := all ⟨c.toNat, by omega⟩
    simp only [Int.toNat_of_nonneg hr.1] at a
    obtain ⟨a1, a2, a3, a4, a5, a6, a7⟩ := a (by omega)
    refine hN none (by omega) a2 a3 ?_
    have s0 := num_step (t.extract 2 t.size) (k + 6) 0 0 (c.toNat / 16 : Nat) (by omega) (by omega) (by rw [at3 0 (by omega)]; exact a4) (by omega) (by omega) (by omega)
    have s1 := num_step (t.extract 2 t.size) (k + 5) 1 (16 * 0 + (c.toNat / 16 : Nat)) (c.toNat % 16 : Nat) (by omega) (by omega) (by rw [at3 1 (by omega)]; exact a5) (by omega) (by omega) (by omega)
    have e : 16 * (16 * 0 + ((c.toNat / 16 : Nat) : Int)) + ((c.toNat % 16 : Nat) : Int) = c := by omega
    rw [e] at s1
    have s2 := num_last (t.extract 2 t.size) (k + 4) 2 c (by omega) (by omega) (by omega) (by rw [at3 2 (by omega)]; exact a6) (fun h => absurd h (by rw [at3 0 (by omega)]; exact a7)) hr.1 (by omega)
    exact (s0.trans (s1.trans (s2.trans (by rw [a1]; rfl))))
theorem next_j1 (s : ByteArray) (c n : Int) (h : 0 ≤ c) (k : Nat) : value_next.j1 (k + 1) s c n = some (if preB s (escB c) = true ∧ ((escB c).size : Int) = n then (c, n) else (0, 0)) := by
  rw [value_next.j1, show value_escape.f c = some (escB c) by unfold value_escape.f; rw [if_pos h]]
  simp only [Option.bind_some]
  rw [pre_q]
  simp only [Option.bind_some]
  by_cases a : preB s (escB c) = true
  · rw [if_pos a]
    by_cases b : ((escB c).size : Int) = n
    · rw [if_pos b, if_pos ⟨a, b⟩]
    · rw [if_neg b, if_neg (fun h => b h.2)]
  · rw [if_neg a, if_neg (fun h => a h.1)]
theorem list_ne {s : ByteArray} (h : s.size ≠ 0) : s.data.toList ≠ [] := by
  intro e
  apply h
  have := congrArg List.length e
  simpa [Array.length_toList] using this
/-- Behind a backslash. -/
theorem next_bs (s : ByteArray) (hs : s.size < 1000000) (hz : s.size ≠ 0) (h92 : byt s.data.toList 0 = 92) (k : Nat) :
    value_next.f (k + 10) s = some (match ctl s with | some c => ((c : Int), ((escB (c : Int)).size : Int)) | none => (0, 0)) := by
  have hd : Lib.decodeGo s = (92, 1) := by
    rw [decGo s hz, decodeL_byt, h92]
    unfold decodeN
    rw [if_pos (by omega)]
  unfold value_next.f utf8_DecodeRuneInString.f
  rw [hd]
  simp only [Option.bind_some]
  rw [if_neg (by decide), value_next.j0, if_neg (by decide), if_pos (by decide), if_pos (by omega)]
  cases e : ctl s with
  | some c =>
    obtain ⟨h1, h2, h3⟩ := ctl_lt s c e
    have hp := escB_pos c (by omega) (by omega)
    have two := (by decide +kernel : ∀ n : Fin 128, isCtl (n.val : Int) = true → 2 ≤ (escB (n.val : Int)).size) ⟨c, h1⟩ h2
    simp only at two
    have le6 := escB_le (c : Int)
    rw [esc_c s c h2 h3 k, Option.bind_some]
    dsimp only
    rw [if_neg (by omega), w64 (by omega) (by omega), next_j1 _ _ _ (by omega), if_pos ⟨h3, by omega⟩]
    simp
  | none =>
    obtain ⟨r1, r2, h, a1, a2, a3, a4⟩ := esc_tot (s.extract 1 s.size) (by rw [ByteArray.size_extract]; omega) k
    rw [h, Option.bind_some]
    dsimp only
    by_cases c : r2 = 0
    · rw [if_pos c]
    · rw [if_neg c, next_j1 _ _ _ a1, if_neg]
      rintro ⟨h1, h2⟩
      have w : wrap64 (r2 + 1) = r2 + 1 := w64 (by omega) (by omega)
      have h0 := pre_at h1 0 (by omega)
      have hc := escB_byte0 r1 a1 (by omega)
      rw [ctl_of s r1 hc h1] at e
      cases e
theorem toB (n : Nat) (h : n < 256) : (UInt8.ofNat n).toNat = n := by rw [UInt8.toNat_ofNat']; omega
/-- Go's writing of a rune and the model's are the same bytes. -/
theorem enc_rune (r : Nat) (hv : r < 55296 ∨ (57343 < r ∧ r ≤ 1114111)) : (Utf8.encode (r : Int)).data.toList = encodeRune (r : Int) := by
  have hvalid : Utf8.valid (r : Int) = true := by
    unfold Utf8.valid
    simp only [Bool.or_eq_true, Bool.and_eq_true, decide_eq_true_eq]
    omega
  unfold Utf8.encode encodeRune
  simp only [hvalid, if_true, Int.toNat_natCast]
  by_cases c1 : r < 128
  · rw [if_pos c1, encodeRuneZ_one (by omega) (by omega)]; simp
  by_cases c2 : r < 2048
  · rw [if_neg c1, if_pos c2, encodeRuneZ_two (by omega) (by omega)]
    simp only [List.map_cons, List.map_nil]
    rw [show (192 + (r : Int) / 64).toNat = 192 + r / 64 by omega, show (128 + (r : Int) % 64).toNat = 128 + r % 64 by omega]
  by_cases c3 : r < 65536
  · rw [if_neg c1, if_neg c2, if_pos c3, encodeRuneZ_three (by omega)]
    simp only [List.map_cons, List.map_nil]
    rw [show (224 + (r : Int) / 4096).toNat = 224 + r / 4096 by omega, show (128 + (r : Int) / 64 % 64).toNat = 128 + r / 64 % 64 by omega, show (128 + (r : Int) % 64).toNat = 128 + r % 64 by omega]
  · rw [if_neg c1, if_neg c2, if_neg c3, encodeRuneZ_four (by omega) (by omega)]
    simp only [List.map_cons, List.map_nil]
    rw [show (240 + (r : Int) / 262144).toNat = 240 + r / 262144 by omega, show (128 + (r : Int) / 4096 % 64).toNat = 128 + r / 4096 % 64 by omega, show (128 + (r : Int) / 64 % 64).toNat = 128 + r / 64 % 64 by omega, show (128 + (r : Int) % 64).toNat = 128 + r % 64 by omega]
theorem size_len (b : ByteArray) : b.size = b.data.toList.length := (Array.length_toList).symm
/-- What is decoded is a rune that may be, and is written as it stood there. -/
theorem dec_enc (l : List UInt8) (h : (dec l).2 ≠ 0) : decodeL l = dec l ∧ ((dec l).1 < 55296 ∨ (57343 < (dec l).1 ∧ (dec l).1 ≤ 1114111)) ∧ encodeRune ((dec l).1 : Int) = l.take (dec l).2 ∧ l ≠ [] := by
  have hne : l ≠ [] := by
    rintro rfl
    exact h rfl
  have e := dec_decodeL l hne
  have e2 : ¬ decodeL l = (65533, 1) := fun hh => by rw [if_pos hh] at e; rw [e] at h; exact h rfl
  rw [if_neg e2] at e
  refine ⟨e.symm, ?_, ?_, hne⟩
  · have h0 := byt_lt l 0
    have h1 := byt_lt l 1
    have h2 := byt_lt l 2
    have h3 := byt_lt l 3
    revert h
    unfold dec decR tl
    repeat' split
    all_goals first | (intro h; exact absurd rfl h) | (intro h; simp only; omega)
  · rw [e]
    exact encode_decode l hne (fun hh => e2 (Prod.ext hh.1 hh.2))
theorem dec_byte0 (l : List UInt8) (h : (dec l).2 ≠ 0) (hc : (dec l).1 < 128) : byt l 0 = (dec l).1 := by
  have h0 := byt_lt l 0
  have h1 := byt_lt l 1
  have h2 := byt_lt l 2
  have h3 := byt_lt l 3
  revert h hc
  unfold dec decR tl
  repeat' split
  all_goals first | (intro h; exact absurd rfl h) | (intro h hc; simp only at hc ⊢ <;> omega)
/-- Without a backslash. -/
theorem next_pl (s : ByteArray) (hz : s.size ≠ 0) (h92 : byt s.data.toList 0 ≠ 92) (h34 : byt s.data.toList 0 ≠ 34) (k : Nat) :
    value_next.f (k + 10) s = some (if (dec s.data.toList).2 = 0 ∨ (dec s.data.toList).1 < 32 ∨ (dec s.data.toList).1 = 127 then (0, 0) else (((dec s.data.toList).1 : Int), ((dec s.data.toList).2 : Int))) := by
  have hne := list_ne hz
  have hl : s.data.toList.length = s.size := Array.length_toList
  unfold value_next.f utf8_DecodeRuneInString.f
  rw [decGo s hz]
  simp only [Option.bind_some]
  by_cases hd : (dec s.data.toList).2 = 0
  · have e := dec_decodeL s.data.toList hne
    have e2 : decodeL s.data.toList = (65533, 1) := by
      by_cases h : decodeL s.data.toList = (65533, 1)
      · exact h
      · rw [if_neg h] at e
        have hw : 1 ≤ (decodeL s.data.toList).2 := Lib.width_pos _ 0
        rw [← e] at hw
        omega
    rw [e2, if_pos (by decide), value_next.j0, if_pos (by decide), if_pos (.inl hd)]
  · obtain ⟨e, hv, he, _⟩ := dec_enc s.data.toList hd
    rw [e]
    have hj : ∀ b, (b = false) → value_next.j0 (k + 10) s ((dec s.data.toList).1 : Int) ((dec s.data.toList).2 : Int) b = some (if (dec s.data.toList).2 = 0 ∨ (dec s.data.toList).1 < 32 ∨ (dec s.data.toList).1 = 127 then (0, 0) else (((dec s.data.toList).1 : Int), ((dec s.data.toList).2 : Int))) := by
      intro b hb
      have hw := dec_width s.data.toList
      have n92 : (dec s.data.toList).1 ≠ 92 := fun h => h92 ((dec_byte0 _ hd (by omega)).trans h)
      have n34 : (dec s.data.toList).1 ≠ 34 := fun h => h34 ((dec_byte0 _ hd (by omega)).trans h)
      rw [value_next.j0, hb, if_neg (by decide), if_neg (by omega), next_j1 _ _ _ (by omega)]
      by_cases hc : (dec s.data.toList).1 < 32 ∨ (dec s.data.toList).1 = 127
      · have hno : ¬ (preB s (escB ((dec s.data.toList).1 : Int)) = true ∧ ((escB ((dec s.data.toList).1 : Int)).size : Int) = ((dec s.data.toList).2 : Int)) := by
          rintro ⟨h1, h2⟩
          have hic : isCtl ((dec s.data.toList).1 : Int) = true := by
            unfold isCtl
            simp only [Bool.or_eq_true, decide_eq_true_eq, beq_iff_eq]
            omega
          have hp := escB_pos ((dec s.data.toList).1 : Int) (by omega) (by omega)
          exact h92 ((pre_at h1 0 hp).trans (isCtl_byte0 _ hic))
        have hD : (dec s.data.toList).2 = 0 ∨ (dec s.data.toList).1 < 32 ∨ (dec s.data.toList).1 = 127 := .inr hc
        rw [if_neg hno, if_pos hD]
      · have eb : escB ((dec s.data.toList).1 : Int) = Utf8.encode ((dec s.data.toList).1 : Int) := by
          unfold escB
          rw [if_neg (by omega), if_neg (by omega), if_neg (by omega), if_neg (by omega), if_neg (by omega)]
        have er := enc_rune (dec s.data.toList).1 hv
        have ez : (Utf8.encode ((dec s.data.toList).1 : Int)).size = (dec s.data.toList).2 := by
          have e1 : (Utf8.encode ((dec s.data.toList).1 : Int)).size = (Utf8.encode ((dec s.data.toList).1 : Int)).data.toList.length := size_len _
          rw [e1, er, he, List.length_take]
          omega
        have hyes : preB s (escB ((dec s.data.toList).1 : Int)) = true ∧ ((escB ((dec s.data.toList).1 : Int)).size : Int) = ((dec s.data.toList).2 : Int) := by
          rw [eb]
          refine ⟨(pre_iff _ _).2 ⟨by omega, ?_⟩, by omega⟩
          rw [ez, er, he]
        have hD : ¬ ((dec s.data.toList).2 = 0 ∨ (dec s.data.toList).1 < 32 ∨ (dec s.data.toList).1 = 127) := by
          rintro (h | h)
          · exact hd h
          · exact hc h
        rw [if_pos hyes, if_neg hD]
    by_cases hc : ((dec s.data.toList).1 : Int) = 65533
    · rw [if_pos hc]
      apply hj
      apply decide_eq_false
      intro hlt
      have hw : (dec s.data.toList).2 = 1 := by omega
      have : (dec s.data.toList).1 < 128 := by
        revert hw
        unfold dec decR tl
        repeat' split
        all_goals first | (intro h; simp at h; done) | (intro h; simp only; omega)
      omega
    · rw [if_neg hc]
      exact hj _ rfl
end Go.Proofs.YtoajlmmkkcelgaaDoor.U8
