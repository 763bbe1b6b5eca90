import Derived.Test.YtoajlmmkkcelgaaDoorAx12
import Derived.Test.YtoajlmmkkcelgaaDoorAx2
import Derived.Test.YtoajlmmkkcelgaaDoorAx3
import Derived.Test.YtoajlmmkkcelgaaDoorAx4
import Derived.Test.YtoajlmmkkcelgaaDoorPureHexes
import Derived.Lib.MapLaws
namespace Go.Proofs.YtoajlmmkkcelgaaDoor.U8
open Go.RowKit Go.Proofs.YtoajlmmkkcelgaaDoor.A Go.Proofs.YtoajlmmkkcelgaaDoorW.PrintWords Go.Proofs.YtoajlmmkkcelgaaDoorW.PrintLast Go.Lib
set_option linter.unusedVariables false
set_option linter.unusedSimpArgs false
/-- Is a rune written with a backslash? -/
def isCtl (c : Int) : Bool := decide (0 ≤ c ∧ c < 32) || c == 34 || c == 92 || c == 127
theorem enc_byte0 (c : Int) (h : 128 ≤ c) : 128 ≤ byt (Utf8.encode c).data.toList 0 := by
  unfold Utf8.encode
  have hb : ∀ n : Nat, 128 ≤ n → n < 256 → 128 ≤ (UInt8.ofNat n).toNat := fun n h1 h2 => by
    rw [UInt8.toNat_ofNat']; omega
  simp only
  generalize hc : (if Utf8.valid c = true then c.toNat else Utf8.runeError) = q
  have hq : 128 ≤ q ∧ q ≤ 1114111 := by
    rw [← hc]
    split
    · rename_i hv
      unfold Utf8.valid at hv
      simp only [Bool.or_eq_true, Bool.and_eq_true, decide_eq_true_eq] at hv
      omega
    · unfold Utf8.runeError; omega
  rw [if_neg (by omega)]
  unfold byt
  split
  · exact hb _ (by omega) (by omega)
  split
  · exact hb _ (by omega) (by omega)
  · exact hb _ (by omega) (by omega)
theorem escB_byte0 (c : Int) (h0 : 0 ≤ c) (h : byt (escB c).data.toList 0 = 92) : isCtl c = true := by
  by_cases h128 : c < 128
  · have all : ∀ n : Fin 128, byt (escB (n.val : Int)).data.toList 0 = 92 → isCtl (n.val : Int) = true := by decide +kernel
    have := all ⟨c.toNat, by omega⟩
    simp only [Int.toNat_of_nonneg h0] at this
    exact this h
  · have := enc_byte0 c (by omega)
    unfold escB at h
    rw [if_neg (by omega), if_neg (by omega), if_neg (by omega), if_neg (by omega), if_neg (by omega)] at h
    omega
theorem isCtl_lt (c : Int) (h : isCtl c = true) : 0 ≤ c ∧ c < 128 := by
  unfold isCtl at h
  simp only [Bool.or_eq_true, decide_eq_true_eq, beq_iff_eq] at h
  omega
theorem isCtl_byte0 (c : Int) (h : isCtl c = true) : byt (escB c).data.toList 0 = 92 := by
  have hr := isCtl_lt c h
  have all : ∀ n : Fin 128, isCtl (n.val : Int) = true → byt (escB (n.val : Int)).data.toList 0 = 92 := by decide +kernel
  have := all ⟨c.toNat, by omega⟩
  simp only [Int.toNat_of_nonneg hr.1] at this
  exact this h
/-- A prefix, byte for byte. -/
theorem pre_iff (s p : ByteArray) : preB s p = true ↔ p.size ≤ s.size ∧ s.data.toList.take p.size = p.data.toList := by
  unfold preB
  by_cases h : p.size ≤ s.size
  · rw [if_pos h, beq_iff_eq]
    have e : (s.extract 0 p.size).toList = s.data.toList.take p.size := by
      rw [ByteArray.toList_eq, ByteArray.data_extract, Array.toList_extract]
      simp
    rw [e, ByteArray.toList_eq]
    exact ⟨fun x => ⟨h, x⟩, fun x => x.2⟩
  · rw [if_neg h]
    simp [h]
theorem byt_take (l : List UInt8) (n i : Nat) (h : i < n) : byt (l.take n) i = byt l i := by
  unfold byt
  rw [List.getD_eq_getElem?_getD, List.getD_eq_getElem?_getD, List.getElem?_take_of_lt h]
theorem pre_at {s p : ByteArray} (h : preB s p = true) (i : Nat) (hi : i < p.size) : byt s.data.toList i = byt p.data.toList i := by
  obtain ⟨h1, h2⟩ := (pre_iff s p).1 h
  rw [← h2, byt_take _ _ _ hi]
/-- No rune's writing is the beginning of another one's. -/
theorem ctl_once (s : ByteArray) (a b : Int) (ha : isCtl a = true) (hb : isCtl b = true) (pa : preB s (escB a) = true) (pb : preB s (escB b) = true) : a = b := by
  have ra := isCtl_lt a ha
  have rb := isCtl_lt b hb
  have all : ∀ x y : Fin 128, isCtl (x.val : Int) = true → isCtl (y.val : Int) = true → (escB (x.val : Int)).data.toList.take (escB (y.val : Int)).size = (escB (y.val : Int)).data.toList.take (escB (x.val : Int)).size → x = y := by decide +kernel
  have := all ⟨a.toNat, by omega⟩ ⟨b.toNat, by omega⟩
  simp only [Int.toNat_of_nonneg ra.1, Int.toNat_of_nonneg rb.1] at this
  have e := this ha hb (by
    rw [← ((pre_iff _ _).1 pa).2, ← ((pre_iff _ _).1 pb).2, List.take_take, List.take_take, Nat.min_comm])
  have := congrArg Fin.val e
  simp only at this
  omega
/-- The rune whose writing, with a backslash, stands at the front. -/
def ctlF (s : ByteArray) : Nat → Nat → Option Nat
  | 0, _ => none
  | m + 1, c => if isCtl c = true ∧ preB s (escB c) = true then some c else ctlF s m (c + 1)
theorem ctlF_some (s : ByteArray) : ∀ m c r, ctlF s m c = some r → c ≤ r ∧ r < c + m ∧ isCtl r = true ∧ preB s (escB r) = true
  | 0, c, r, h => by simp [ctlF] at h
  | m + 1, c, r, h => by
    rw [ctlF] at h
    split at h
    · rename_i h1
      obtain rfl := Option.some.inj h
      exact ⟨by omega, by omega, h1.1, h1.2⟩
    · have := ctlF_some s m (c + 1) r h
      exact ⟨by omega, by omega, this.2.2⟩
theorem ctlF_none (s : ByteArray) : ∀ m c, ctlF s m c = none → ∀ r : Nat, c ≤ r → r < c + m → isCtl r = true → preB s (escB r) = true → False
  | 0, c, h, r, h1, h2, _, _ => by omega
  | m + 1, c, h, r, h1, h2, h3, h4 => by
    rw [ctlF] at h
    split at h
    · cases h
    · rename_i hn
      by_cases e : r = c
      · subst e; exact hn ⟨h3, h4⟩
      · exact ctlF_none s m (c + 1) h r (by omega) (by omega) h3 h4
def ctl (s : ByteArray) : Option Nat := ctlF s 128 0
theorem ctl_of (s : ByteArray) (c : Int) (h : isCtl c = true) (hp : preB s (escB c) = true) : ctl s = some c.toNat := by
  have hr := isCtl_lt c h
  cases e : ctl s with
  | none => exact absurd hp (fun hp => ctlF_none s 128 0 e c.toNat (by omega) (by omega) (by rw [Int.toNat_of_nonneg hr.1]; exact h) (by rw [Int.toNat_of_nonneg hr.1]; exact hp))
  | some r =>
    have := ctlF_some s 128 0 r e
    have e2 := ctl_once s r c this.2.2.1 h this.2.2.2 hp
    rw [← e2, Int.toNat_natCast]
theorem ctl_lt (s : ByteArray) (c : Nat) (h : ctl s = some c) : c < 128 ∧ isCtl c = true ∧ preB s (escB c) = true := by
  have := ctlF_some s 128 0 c h
  exact ⟨by omega, this.2.2⟩
-- the reference's side
theorem escape_r (c : Nat) (h : c < 128) (k : Nat) : caduceusref03_escape.f (k + 8) (c : Int) = some (escB (c : Int)) := by
  have all : ∀ n : Fin 128, caduceusref03_escape.f 8 ((n.val : Nat) : Int) = some (escB ((n.val : Nat) : Int)) := by decide +kernel
  exact at_rounds (fun k => caduceusref03_escape.mono (c : Int) k) (show 8 ≤ k + 8 by omega) (all ⟨c, h⟩)
theorem escB_pos (c : Int) (h : 0 ≤ c) (h2 : c < 128) : 0 < (escB c).size := by
  have all : ∀ n : Fin 128, 0 < (escB (n.val : Int)).size := by decide +kernel
  have := all ⟨c.toNat, by omega⟩
  simpa only [Int.toNat_of_nonneg h] using this
theorem control_l0 (s : ByteArray) (k : Nat) : ∀ (m c : Nat), c + m = 128 → caduceusref03_control.l0 (k + m + 9) s (c : Int) = some (match ctlF s m c with | some r => (r : Int) | none => -1)
  | 0, c, h => by
    rw [show k + 0 + 9 = k + 8 + 1 by omega, caduceusref03_control.l0, if_neg (by omega)]
    rfl
  | m + 1, c, h => by
    have ih := control_l0 s k m (c + 1) (by omega)
    have w1 : wrap64 ((c : Int) + 1) = ((c + 1 : Nat) : Int) := by rw [w64 (by omega) (by omega)]; omega
    have hp := escB_pos c (by omega) (by omega)
    rw [show k + (m + 1) + 9 = k + m + 9 + 1 by omega, caduceusref03_control.l0, if_pos (by omega), show k + m + 9 = k + m + 1 + 8 by omega, escape_r c (by omega), show k + m + 1 + 8 = k + m + 9 by omega]
    simp only [Option.bind_some]
    rw [if_pos (by omega), pre_r, ctlF, w1, ih, show bt (escB (c : Int)) 0 = _ from btq (escB (c : Int)) 0, Option.bind_some]
    by_cases hc : isCtl c = true
    · have hb := isCtl_byte0 c hc
      by_cases hq : preB s (escB c) = true
      · simp [hb, hc, hq]
      · simp [hb, hc, hq]
    · have hb : ¬ byt (escB (c : Int)).data.toList 0 = 92 := fun h => hc (escB_byte0 c (by omega) h)
      simp [hb, hc]
      intro h; omega
theorem control_r (s : ByteArray) (k : Nat) : caduceusref03_control.f (k + 137) s = some (match ctl s with | some r => (r : Int) | none => -1) := by
  unfold caduceusref03_control.f
  exact control_l0 s k 128 0 rfl
end Go.Proofs.YtoajlmmkkcelgaaDoor.U8
