-- By drv.py, the session's own driver round the kit's print: the machine's side of the laws, function by function. Not trusted: Lean checks it.
import Derived.Test.YtplemgmfnghoeaaGreatDoorAx0
namespace Go.Proofs.YtplemgmfnghoeaaGreatDoor.A
open Go.RowKit Go.Proofs.YtplemgmfnghoeaaGreatDoorW.PrintWords Go.Proofs.YtplemgmfnghoeaaGreatDoorW.PrintLast Go.Proofs.YtplemgmfnghoeaaGreatDoorW.PrintMore
attribute [local go_sem] max2_int min2_int max_two min_two max_three min_three max_four min_four   -- for this text's walks alone
set_option linter.unusedVariables false
set_option linter.unusedSimpArgs false

/-! ### strings_Cut: function 51, by hand -/
def strings_Cut.f (a0 : ByteArray) (a1 : ByteArray) : Option (ByteArray × ByteArray × Bool) := if a0.size < 4294967281 then some (⟨(Lib.cut a0.data.toList a1.data.toList).1.toArray⟩, ⟨(Lib.cut a0.data.toList a1.data.toList).2.1.toArray⟩, (Lib.cut a0.data.toList a1.data.toList).2.2) else none
theorem strings_Cut.calls (a0 : ByteArray) (a1 : ByteArray) (r1 : ByteArray) (r2 : ByteArray) (r3 : Bool) (w : World) (hT : Tabs w) (h : strings_Cut.f a0 a1 = some (r1, r2, r3)) :
  Calls Tryz.prog 51 #[.string a0, .string a1] w fun e w' => e = .returned (.tuple #[.string r1, .string r2, .bool r3]) ∧ Drawn0 w w' := by
 unfold strings_Cut.f at h
 split at h
 ·rename_i hs
  have h := Option.some.inj h
  simp only [Prod.mk.injEq] at h
  obtain ⟨rfl, rfl, rfl⟩ := h
  obtain ⟨m, hm⟩ := hT.ml
  exact (Tryz.strings_Cut a0 a1 m w hs hm).mono fun e w' ⟨he, n, hw⟩ => ⟨he, ⟨n, hw⟩⟩
 ·cases h

/-! ### stringslite_HasPrefix: function 147 -/
def stringslite_HasPrefix.f (a0 : ByteArray) (a1 : ByteArray) : Option (Bool) := if (a0.size : Int) ≥ (a1.size : Int) then (if 0 ≤ (a1.size : Int) then (if (a1.size : Int) ≤ (a0.size : Int) then (some ((a0.extract 0 ((a1.size : Int) : Int).toNat).toList == a1.toList)) else (none)) else (none)) else (some false)
set_option maxHeartbeats 8000000 in
set_option maxRecDepth 100000 in
theorem stringslite_HasPrefix.calls (a0 : ByteArray) (a1 : ByteArray) (r : Bool) (w : World) (h : stringslite_HasPrefix.f a0 a1 = some r) :
  Calls Tryz.prog 147 #[.string a0, .string a1] w fun e w' => e = .returned (.bool r) ∧ Drawn0 w w' := by
 have H : (if (a0.size : Int) ≥ (a1.size : Int) then (if 0 ≤ (a1.size : Int) then (if (a1.size : Int) ≤ (a0.size : Int) then (some ((a0.extract 0 ((a1.size : Int) : Int).toNat).toList == a1.toList)) else (none)) else (none)) else (some false)) = some r := h
 clear h
 by_cases c3 : (a0.size : Int) ≥ (a1.size : Int)
 ·rw [if_pos c3] at H
  have c3b0 : decide ((a1.size : Int) ≤ (a0.size : Int)) = true := decide_eq_true c3
  have c3b1 : decide (a1.size ≤ a0.size) = true := decide_eq_true (Int.ofNat_le.mp c3)
  clear c3
  by_cases c4 : 0 ≤ (a1.size : Int)
  ·rw [if_pos c4] at H
   have c4b0 := eq_true c4
   have c4b1 : decide (0 ≤ (a1.size : Int)) = true := decide_eq_true c4
   clear c4
   by_cases c5 : (a1.size : Int) ≤ (a0.size : Int)
   ·rw [if_pos c5] at H
    have c5b0 := eq_true c5
    have c5b1 : decide ((a1.size : Int) ≤ (a0.size : Int)) = true := decide_eq_true c5
    clear c5
    obtain rfl := Option.some.inj H
    go_enter Tryz.func147, Tryz.ntmps147
    go_wp2
    go_ret
    exact ⟨endS, drA⟩
   ·rw [if_neg c5] at H
    exact absurd H (by simp)
  ·rw [if_neg c4] at H
   exact absurd H (by simp)
 ·rw [if_neg c3] at H
  have c3b0 : decide ((a1.size : Int) ≤ (a0.size : Int)) = false := decide_eq_false c3
  have c3b1 : decide (a1.size ≤ a0.size) = false := decide_eq_false (fun h => c3 (Int.ofNat_le.mpr h))
  clear c3
  obtain rfl := Option.some.inj H
  go_enter Tryz.func147, Tryz.ntmps147
  go_wp2
  go_ret
  exact ⟨endS, drA⟩

/-! ### strings_HasPrefix: function 119 -/
def strings_HasPrefix.f (a0 : ByteArray) (a1 : ByteArray) : Option (Bool) := (stringslite_HasPrefix.f a0 a1).bind fun t203 => (some t203)
set_option maxHeartbeats 8000000 in
set_option maxRecDepth 100000 in
theorem strings_HasPrefix.calls (a0 : ByteArray) (a1 : ByteArray) (r : Bool) (w : World) (h : strings_HasPrefix.f a0 a1 = some r) :
  Calls Tryz.prog 119 #[.string a0, .string a1] w fun e w' => e = .returned (.bool r) ∧ Drawn0 w w' := by
 have H : ((stringslite_HasPrefix.f a0 a1).bind fun t203 => (some t203)) = some r := h
 clear h
 replace H := Option.bind_eq_some_iff.mp H
 obtain ⟨t203, A30, H⟩ := H
 replace H : (some t203) = some r := H
 have A3 := Aside0.mk A30
 clear A30
 obtain rfl := Option.some.inj H
 go_enter Tryz.func119, Tryz.ntmps119
 go_wp2_with (first | ((with_reducible refine gate_callee (f := 147) rfl ?_); refine goesA (some 7) Tryz.func147 #[.string a0, .string a1] ?_; (with_reducible refine (stringslite_HasPrefix.calls a0 a1 t203 _ A3.out).mono ?_); rintro e w' ⟨rfl, ⟨nd, rfl⟩⟩; refine ⟨_, rfl, ?_⟩))
 go_ret
 exact ⟨endS, drA⟩

/-! ### utf8_DecodeRuneInString: function 154, by hand -/
def utf8_DecodeRuneInString.f (a0 : ByteArray) : Option (Int × Int) := some (((Lib.decodeGo a0).1 : Int), ((Lib.decodeGo a0).2 : Int))
theorem utf8_DecodeRuneInString.calls (a0 : ByteArray) (r1 : Int) (r2 : Int) (w : World) (hT : Tabs w) (h : utf8_DecodeRuneInString.f a0 = some (r1, r2)) :
  Calls Tryz.prog 154 #[.string a0] w fun e w' => e = .returned (.tuple #[.int .i32 r1, .int .i64 r2]) ∧ Below w.heap.size w w' := by
 have h := Option.some.inj h
 simp only [Prod.mk.injEq] at h
 obtain ⟨rfl, rfl⟩ := h
 exact Tryz.utf8_DecodeRuneInString a0 w hT.u8

/-! ### strings_IndexByte: function 165, by hand -/
def strings_IndexByte.f (a0 : ByteArray) (a1 : Int) : Option Int := some (Lib.indexByte a0.data.toList a1.toNat.toUInt8)
theorem strings_IndexByte.calls (a0 : ByteArray) (a1 : Int) (r : Int) (w : World) (h : strings_IndexByte.f a0 a1 = some r) :
  Calls Tryz.prog 165 #[.string a0, .int .u8 a1] w fun e w' => e = .returned (.int .i64 r) ∧ Drawn0 w w' := by
 obtain rfl := Option.some.inj h
 refine (Tryz.strings_IndexByte a0 a1 w).mono ?_
 rintro e w' ⟨he, rfl⟩
 exact ⟨he, Drawn0.refl _⟩

/-! ### value_digit: function 148 -/
def value_digit.f (a0 : Int) : Option (Int) := (strings_IndexByte.f (⟨#[48, 49, 50, 51, 52, 53, 54, 55, 56, 57, 97, 98, 99, 100, 101, 102]⟩ : ByteArray) a0).bind fun t204 => (some t204)
set_option maxHeartbeats 8000000 in
set_option maxRecDepth 100000 in
theorem value_digit.calls (a0 : Int) (r : Int) (w : World) (h : value_digit.f a0 = some r) :
  Calls Tryz.prog 148 #[.int .u8 a0] w fun e w' => e = .returned (.int .i64 r) ∧ Drawn0 w w' := by
 have H : ((strings_IndexByte.f (⟨#[48, 49, 50, 51, 52, 53, 54, 55, 56, 57, 97, 98, 99, 100, 101, 102]⟩ : ByteArray) a0).bind fun t204 => (some t204)) = some r := h
 clear h
 replace H := Option.bind_eq_some_iff.mp H
 obtain ⟨t204, A20, H⟩ := H
 replace H : (some t204) = some r := H
 have A2 := Aside0.mk A20
 clear A20
 obtain rfl := Option.some.inj H
 go_enter Tryz.func148, Tryz.ntmps148
 go_wp2_with (first | ((with_reducible refine gate_callee (f := 165) rfl ?_); refine goesA (some 4) Tryz.func165 #[.string (⟨#[48, 49, 50, 51, 52, 53, 54, 55, 56, 57, 97, 98, 99, 100, 101, 102]⟩ : ByteArray), .int .u8 a0] ?_; (with_reducible refine (strings_IndexByte.calls (⟨#[48, 49, 50, 51, 52, 53, 54, 55, 56, 57, 97, 98, 99, 100, 101, 102]⟩ : ByteArray) a0 t204 _ A2.out).mono ?_); rintro e w' ⟨rfl, ⟨nd, rfl⟩⟩; refine ⟨_, rfl, ?_⟩))
 go_ret
 exact ⟨endS, drA⟩

/-! ### value_numbered: function 173 -/
def value_numbered.l0 : Nat → ByteArray → Int → Int → Option (Int × Int)
 | 0, _, _, _ => none
 | k + 1, x0, x4, x5 => if x5 < (x0.size : Int) then (if x5 < 6 then (if 0 ≤ x5 then ((value_digit.f (bt x0 x5)).bind fun t205 => (if t205 ≥ 0 then ((value_digit.f (bt x0 x5)).bind fun t206 => (value_numbered.l0 k x0 (Go.bits .or .i64 (wrap64 (x4 * 16)) t206) (wrap64 (x5 + 1)))) else (if x5 = 0 then (some (0, 0)) else (if x5 = (x0.size : Int) then (some (0, 0)) else (if (bt x0 x5) = 125 then (if 0 < (x0.size : Int) then (if (bt x0 0) = 48 then (if x5 > 1 then (some (0, 0)) else (if x4 > 1114111 then (some (0, 0)) else (some (wrap32 (x4), wrap64 (x5 + 1))))) else (if x4 > 1114111 then (some (0, 0)) else (some (wrap32 (x4), wrap64 (x5 + 1))))) else (none)) else (some (0, 0))))))) else (none)) else (if x5 = 0 then (some (0, 0)) else (if x5 = (x0.size : Int) then (some (0, 0)) else (if 0 ≤ x5 then (if (bt x0 x5) = 125 then (if 0 < (x0.size : Int) then (if (bt x0 0) = 48 then (if x5 > 1 then (some (0, 0)) else (if x4 > 1114111 then (some (0, 0)) else (some (wrap32 (x4), wrap64 (x5 + 1))))) else (if x4 > 1114111 then (some (0, 0)) else (some (wrap32 (x4), wrap64 (x5 + 1))))) else (none)) else (some (0, 0))) else (none))))) else (if x5 = 0 then (some (0, 0)) else (if x5 = (x0.size : Int) then (some (0, 0)) else (if 0 ≤ x5 then (none) else (none))))
def value_numbered.f (k : Nat) (a0 : ByteArray) : Option (Int × Int) := value_numbered.l0 k a0 0 0
theorem value_numbered.mono_l : ∀ k, (∀ y0 y1 y2, LeO (value_numbered.l0 k y0 y1 y2) (value_numbered.l0 (k + 1) y0 y1 y2))
 | 0 => fun _ _ _ r h => by simp [value_numbered.l0] at h
 | k + 1 => by
  have ih0 := value_numbered.mono_l k
  ·intro y0 y1 y2
   unfold value_numbered.l0
   repeat' first
   | (with_reducible exact ih0 _ _ _)
   | (with_reducible exact LeO.refl _)
   | (with_reducible exact LeO.none _)
   | (with_reducible refine LeO.ite ?_ ?_)
   | (with_reducible refine LeO.bind ?_ (fun _ => ?_))
   | exact ih0 _ _ _
   | exact LeO.none _
   | refine LeO.ite ?_ ?_
   | refine LeO.bind ?_ (fun _ => ?_)
theorem value_numbered.mono : ∀ a0 k, LeO (value_numbered.f k a0) (value_numbered.f (k + 1) a0) := by
 intro a0 k
 have ih0 := value_numbered.mono_l k
 unfold value_numbered.f
 repeat' first
   | (with_reducible exact ih0 _ _ _)
   | (with_reducible exact LeO.refl _)
   | (with_reducible exact LeO.none _)
   | (with_reducible refine LeO.ite ?_ ?_)
   | (with_reducible refine LeO.bind ?_ (fun _ => ?_))
   | exact ih0 _ _ _
   | exact LeO.none _
   | refine LeO.ite ?_ ?_
   | refine LeO.bind ?_ (fun _ => ?_)
set_option maxHeartbeats 8000000 in
set_option maxRecDepth 100000 in
theorem value_numbered.calls (k : Nat) (a0 : ByteArray) (r1 : Int) (r2 : Int) (w : World) (h : value_numbered.f k a0 = some (r1, r2)) :
  Calls Tryz.prog 173 #[.string a0] w fun e w' => e = .returned (.tuple #[.int .i32 r1, .int .i64 r2]) ∧ Drawn0 w w' := by
 have H : (value_numbered.l0 k a0 0 0) = some (r1, r2) := h
 clear h
 have H' := Aside0.mk H
 clear H
 go_enter Tryz.func173, Tryz.ntmps173
 go_wp2
 go_loopg [4, 5] k (fun kq v4 v5 w' => ∃ (x4_1 : Int) (x5_1 : Int), v4 = .int .i64 x4_1 ∧ v5 = .int .i64 x5_1 ∧ Aside0 (value_numbered.l0 kq a0 x4_1 x5_1 = some (r1, r2)) ∧ Aside0 (kq ≤ k) ∧ Drawn0 w w')
 case atStart => exact ⟨(0), (0), (endS), (endS), H', ⟨Nat.le_refl _⟩, drA⟩
 case round =>
  clear H'
  try clear c1
  obtain ⟨x4_1, x5_1, rfl, rfl, HA, HK1, ⟨m1, rfl⟩⟩ := hrel
  cases gk with
  | zero => exact absurd HA.out (by simp [value_numbered.l0])
  | succ k1 =>
   have H := HA.out
   clear HA
   simp only [value_numbered.l0] at H
   by_cases c2 : x5_1 < (a0.size : Int)
   ·rw [if_pos c2] at H
    have c2b0 : decide (x5_1 < (a0.size : Int)) = true := decide_eq_true c2
    clear c2
    by_cases c3 : x5_1 < 6
    ·rw [if_pos c3] at H
     have c3b0 : decide (x5_1 < 6) = true := decide_eq_true c3
     clear c3
     by_cases c4 : 0 ≤ x5_1
     ·rw [if_pos c4] at H
      have c4b0 : decide (0 ≤ x5_1) = true := decide_eq_true c4
      clear c4
      replace H := Option.bind_eq_some_iff.mp H
      obtain ⟨t205, A60, H⟩ := H
      replace H : (if t205 ≥ 0 then ((value_digit.f (bt a0 x5_1)).bind fun t206 => (value_numbered.l0 k1 a0 (Go.bits .or .i64 (wrap64 (x4_1 * 16)) t206) (wrap64 (x5_1 + 1)))) else (if x5_1 = 0 then (some (0, 0)) else (if x5_1 = (a0.size : Int) then (some (0, 0)) else (if (bt a0 x5_1) = 125 then (if 0 < (a0.size : Int) then (if (bt a0 0) = 48 then (if x5_1 > 1 then (some (0, 0)) else (if x4_1 > 1114111 then (some (0, 0)) else (some (wrap32 (x4_1), wrap64 (x5_1 + 1))))) else (if x4_1 > 1114111 then (some (0, 0)) else (some (wrap32 (x4_1), wrap64 (x5_1 + 1))))) else (none)) else (some (0, 0)))))) = some (r1, r2) := H
      have A6 := Aside0.mk A60
      clear A60
      by_cases c7 : t205 ≥ 0
      ·rw [if_pos c7] at H
       have c7b0 : decide (0 ≤ t205) = true := decide_eq_true c7
       clear c7
       replace H := Option.bind_eq_some_iff.mp H
       obtain ⟨t206, A90, H⟩ := H
       replace H : (value_numbered.l0 k1 a0 (Go.bits .or .i64 (wrap64 (x4_1 * 16)) t206) (wrap64 (x5_1 + 1))) = some (r1, r2) := H
       have A9 := Aside0.mk A90
       clear A90
       have H' := Aside0.mk H
       clear H
       have p5 : 0 ≤ (x5_1 : Int) := odA
       have q5 : x5_1 < (a0.size : Int) := odA
       have hx5 := bt_at a0 x5_1
       replace p5 := eq_true p5
       replace q5 := eq_true q5
       go_wp2_with (first | (go_at_call 148; (with_reducible refine (value_digit.calls (bt a0 x5_1) t205 _ A6.out).mono ?_); rintro e w' ⟨rfl, ⟨nd, rfl⟩⟩; have p8 : 0 ≤ (x5_1 : Int) := odA; have q8 : x5_1 < (a0.size : Int) := odA; have hx8 := bt_at a0 x5_1; replace p8 := eq_true p8; replace q8 := eq_true q8) | ((with_reducible refine gate_callee (f := 148) rfl ?_); refine goesA (some 26) Tryz.func148 #[.int .u8 (bt a0 x5_1)] ?_; (with_reducible refine (value_digit.calls (bt a0 x5_1) t206 _ A9.out).mono ?_); rintro e w' ⟨rfl, ⟨nd, rfl⟩⟩; refine ⟨_, rfl, ?_⟩))
       go_roundg k1
       case measure => have := HK1.out; omega
       case rel => exact ⟨(Go.bits .or .i64 (wrap64 (x4_1 * 16)) t206), (wrap64 (x5_1 + 1)), (endS), (endS), H', ⟨by have := HK1.out; omega⟩, drA⟩
      ·rw [if_neg c7] at H
       have c7b0 : decide (0 ≤ t205) = false := decide_eq_false c7
       clear c7
       by_cases c10 : x5_1 = 0
       ·rw [if_pos c10] at H
        have c10b0 : (x5_1 == 0) = true := beq_iff_eq.mpr c10
        have c10b1 : (x5_1 != 0) = false := bne_eq_false_iff_eq.mpr c10
        clear c10
        simp only [Option.some.injEq, Prod.mk.injEq] at H
        obtain ⟨rfl, rfl⟩ := H
        have p5 : 0 ≤ (x5_1 : Int) := odA
        have q5 : x5_1 < (a0.size : Int) := odA
        have hx5 := bt_at a0 x5_1
        replace p5 := eq_true p5
        replace q5 := eq_true q5
        go_wp2_with (first | (go_at_call 148; (with_reducible refine (value_digit.calls (bt a0 x5_1) t205 _ A6.out).mono ?_); rintro e w' ⟨rfl, ⟨nd, rfl⟩⟩))
        go_ret2
        exact ⟨endS, drA⟩
       ·rw [if_neg c10] at H
        have c10b0 : (x5_1 == 0) = false := beq_eq_false_iff_ne.mpr c10
        have c10b1 : (x5_1 != 0) = true := bne_iff_ne.mpr c10
        by_cases c11 : x5_1 = (a0.size : Int)
        ·rw [if_pos c11] at H
         have c11b0 : (x5_1 == (a0.size : Int)) = true := beq_iff_eq.mpr c11
         have c11b1 : (x5_1 != (a0.size : Int)) = false := bne_eq_false_iff_eq.mpr c11
         clear c11
         simp only [Option.some.injEq, Prod.mk.injEq] at H
         obtain ⟨rfl, rfl⟩ := H
         have p5 : 0 ≤ (x5_1 : Int) := odA
         have q5 : x5_1 < (a0.size : Int) := odA
         have hx5 := bt_at a0 x5_1
         replace p5 := eq_true p5
         replace q5 := eq_true q5
         go_wp2_with (first | (go_at_call 148; (with_reducible refine (value_digit.calls (bt a0 x5_1) t205 _ A6.out).mono ?_); rintro e w' ⟨rfl, ⟨nd, rfl⟩⟩))
         go_ret2
         exact ⟨endS, drA⟩
        ·rw [if_neg c11] at H
         have c11b0 : (x5_1 == (a0.size : Int)) = false := beq_eq_false_iff_ne.mpr c11
         have c11b1 : (x5_1 != (a0.size : Int)) = true := bne_iff_ne.mpr c11
         by_cases c13 : (bt a0 x5_1) = 125
         ·rw [if_pos c13] at H
          have c13b0 : ((bt a0 x5_1) == 125) = true := beq_iff_eq.mpr c13
          have c13b1 : ((bt a0 x5_1) != 125) = false := bne_eq_false_iff_eq.mpr c13
          clear c13
          by_cases c14 : 0 < (a0.size : Int)
          ·rw [if_pos c14] at H
           have c14b0 : decide (0 < (a0.size : Int)) = true := decide_eq_true c14
           have c14b1 : decide (0 < a0.size) = true := decide_eq_true (by omega)
           clear c14
           by_cases c16 : (bt a0 0) = 48
           ·rw [if_pos c16] at H
            have c16b0 : ((bt a0 0) == 48) = true := beq_iff_eq.mpr c16
            have c16b1 : ((bt a0 0) != 48) = false := bne_eq_false_iff_eq.mpr c16
            clear c16
            by_cases c17 : x5_1 > 1
            ·rw [if_pos c17] at H
             have c17b0 : decide (1 < x5_1) = true := decide_eq_true c17
             clear c17
             simp only [Option.some.injEq, Prod.mk.injEq] at H
             obtain ⟨rfl, rfl⟩ := H
             have p5 : 0 ≤ (x5_1 : Int) := odA
             have q5 : x5_1 < (a0.size : Int) := odA
             have hx5 := bt_at a0 x5_1
             replace p5 := eq_true p5
             replace q5 := eq_true q5
             go_wp2_with (first | (go_at_call 148; (with_reducible refine (value_digit.calls (bt a0 x5_1) t205 _ A6.out).mono ?_); rintro e w' ⟨rfl, ⟨nd, rfl⟩⟩; have p12 : 0 ≤ (x5_1 : Int) := odA; have q12 : x5_1 < (a0.size : Int) := odA; have hx12 := bt_at a0 x5_1; replace p12 := eq_true p12; replace q12 := eq_true q12; have p15 : 0 ≤ (0 : Int) := (by omega); have q15 : 0 < a0.size := (by have : (0 : Int) < (a0.size : Int) := odA; omega); have hx15 : ∀ h : 0 < a0.size, ((a0[0]'h).toNat : Int) = bt a0 0 := bt_at a0 0; clear p15; have qi15 : (0 < (a0.size : Int)) = True := eq_true (odA); replace q15 := eq_true q15))
             go_ret2
             exact ⟨endS, drA⟩
            ·rw [if_neg c17] at H
             have c17b0 : decide (1 < x5_1) = false := decide_eq_false c17
             clear c17
             by_cases c18 : x4_1 > 1114111
             ·rw [if_pos c18] at H
              have c18b0 : decide (1114111 < x4_1) = true := decide_eq_true c18
              clear c18
              simp only [Option.some.injEq, Prod.mk.injEq] at H
              obtain ⟨rfl, rfl⟩ := H
              have p5 : 0 ≤ (x5_1 : Int) := odA
              have q5 : x5_1 < (a0.size : Int) := odA
              have hx5 := bt_at a0 x5_1
              replace p5 := eq_true p5
              replace q5 := eq_true q5
              go_wp2_with (first | (go_at_call 148; (with_reducible refine (value_digit.calls (bt a0 x5_1) t205 _ A6.out).mono ?_); rintro e w' ⟨rfl, ⟨nd, rfl⟩⟩; have p12 : 0 ≤ (x5_1 : Int) := odA; have q12 : x5_1 < (a0.size : Int) := odA; have hx12 := bt_at a0 x5_1; replace p12 := eq_true p12; replace q12 := eq_true q12; have p15 : 0 ≤ (0 : Int) := (by omega); have q15 : 0 < a0.size := (by have : (0 : Int) < (a0.size : Int) := odA; omega); have hx15 : ∀ h : 0 < a0.size, ((a0[0]'h).toNat : Int) = bt a0 0 := bt_at a0 0; clear p15; have qi15 : (0 < (a0.size : Int)) = True := eq_true (odA); replace q15 := eq_true q15))
              go_ret2
              exact ⟨endS, drA⟩
             ·rw [if_neg c18] at H
              have c18b0 : decide (1114111 < x4_1) = false := decide_eq_false c18
              clear c18
              simp only [Option.some.injEq, Prod.mk.injEq] at H
              obtain ⟨rfl, rfl⟩ := H
              have p5 : 0 ≤ (x5_1 : Int) := odA
              have q5 : x5_1 < (a0.size : Int) := odA
              have hx5 := bt_at a0 x5_1
              replace p5 := eq_true p5
              replace q5 := eq_true q5
              go_wp2_with (first | (go_at_call 148; (with_reducible refine (value_digit.calls (bt a0 x5_1) t205 _ A6.out).mono ?_); rintro e w' ⟨rfl, ⟨nd, rfl⟩⟩; have p12 : 0 ≤ (x5_1 : Int) := odA; have q12 : x5_1 < (a0.size : Int) := odA; have hx12 := bt_at a0 x5_1; replace p12 := eq_true p12; replace q12 := eq_true q12; have p15 : 0 ≤ (0 : Int) := (by omega); have q15 : 0 < a0.size := (by have : (0 : Int) < (a0.size : Int) := odA; omega); have hx15 : ∀ h : 0 < a0.size, ((a0[0]'h).toNat : Int) = bt a0 0 := bt_at a0 0; clear p15; have qi15 : (0 < (a0.size : Int)) = True := eq_true (odA); replace q15 := eq_true q15))
              go_ret2
              exact ⟨endS, drA⟩
           ·rw [if_neg c16] at H
            have c16b0 : ((bt a0 0) == 48) = false := beq_eq_false_iff_ne.mpr c16
            have c16b1 : ((bt a0 0) != 48) = true := bne_iff_ne.mpr c16
            by_cases c19 : x4_1 > 1114111
            ·rw [if_pos c19] at H
             have c19b0 : decide (1114111 < x4_1) = true := decide_eq_true c19
             clear c19
             simp only [Option.some.injEq, Prod.mk.injEq] at H
             obtain ⟨rfl, rfl⟩ := H
             have p5 : 0 ≤ (x5_1 : Int) := odA
             have q5 : x5_1 < (a0.size : Int) := odA
             have hx5 := bt_at a0 x5_1
             replace p5 := eq_true p5
             replace q5 := eq_true q5
             go_wp2_with (first | (go_at_call 148; (with_reducible refine (value_digit.calls (bt a0 x5_1) t205 _ A6.out).mono ?_); rintro e w' ⟨rfl, ⟨nd, rfl⟩⟩; have p12 : 0 ≤ (x5_1 : Int) := odA; have q12 : x5_1 < (a0.size : Int) := odA; have hx12 := bt_at a0 x5_1; replace p12 := eq_true p12; replace q12 := eq_true q12; have p15 : 0 ≤ (0 : Int) := (by omega); have q15 : 0 < a0.size := (by have : (0 : Int) < (a0.size : Int) := odA; omega); have hx15 : ∀ h : 0 < a0.size, ((a0[0]'h).toNat : Int) = bt a0 0 := bt_at a0 0; clear p15; have qi15 : (0 < (a0.size : Int)) = True := eq_true (odA); replace q15 := eq_true q15))
             go_ret2
             exact ⟨endS, drA⟩
            ·rw [if_neg c19] at H
             have c19b0 : decide (1114111 < x4_1) = false := decide_eq_false c19
             clear c19
             simp only [Option.some.injEq, Prod.mk.injEq] at H
             obtain ⟨rfl, rfl⟩ := H
             have p5 : 0 ≤ (x5_1 : Int) := odA
             have q5 : x5_1 < (a0.size : Int) := odA
             have hx5 := bt_at a0 x5_1
             replace p5 := eq_true p5
             replace q5 := eq_true q5
             go_wp2_with (first | (go_at_call 148; (with_reducible refine (value_digit.calls (bt a0 x5_1) t205 _ A6.out).mono ?_); rintro e w' ⟨rfl, ⟨nd, rfl⟩⟩; have p12 : 0 ≤ (x5_1 : Int) := odA; have q12 : x5_1 < (a0.size : Int) := odA; have hx12 := bt_at a0 x5_1; replace p12 := eq_true p12; replace q12 := eq_true q12; have p15 : 0 ≤ (0 : Int) := (by omega); have q15 : 0 < a0.size := (by have : (0 : Int) < (a0.size : Int) := odA; omega); have hx15 : ∀ h : 0 < a0.size, ((a0[0]'h).toNat : Int) = bt a0 0 := bt_at a0 0; clear p15; have qi15 : (0 < (a0.size : Int)) = True := eq_true (odA); replace q15 := eq_true q15))
             go_ret2
             exact ⟨endS, drA⟩
          ·rw [if_neg c14] at H
           exact absurd H (by simp)
         ·rw [if_neg c13] at H
          have c13b0 : ((bt a0 x5_1) == 125) = false := beq_eq_false_iff_ne.mpr c13
          have c13b1 : ((bt a0 x5_1) != 125) = true := bne_iff_ne.mpr c13
          simp only [Option.some.injEq, Prod.mk.injEq] at H
          obtain ⟨rfl, rfl⟩ := H
          have p5 : 0 ≤ (x5_1 : Int) := odA
          have q5 : x5_1 < (a0.size : Int) := odA
          have hx5 := bt_at a0 x5_1
          replace p5 := eq_true p5
          replace q5 := eq_true q5
          go_wp2_with (first | (go_at_call 148; (with_reducible refine (value_digit.calls (bt a0 x5_1) t205 _ A6.out).mono ?_); rintro e w' ⟨rfl, ⟨nd, rfl⟩⟩; have p12 : 0 ≤ (x5_1 : Int) := odA; have q12 : x5_1 < (a0.size : Int) := odA; have hx12 := bt_at a0 x5_1; replace p12 := eq_true p12; replace q12 := eq_true q12))
          go_ret2
          exact ⟨endS, drA⟩
     ·rw [if_neg c4] at H
      exact absurd H (by simp)
    ·rw [if_neg c3] at H
     have c3b0 : decide (x5_1 < 6) = false := decide_eq_false c3
     clear c3
     by_cases c20 : x5_1 = 0
     ·rw [if_pos c20] at H
      have c20b0 : (x5_1 == 0) = true := beq_iff_eq.mpr c20
      have c20b1 : (x5_1 != 0) = false := bne_eq_false_iff_eq.mpr c20
      clear c20
      simp only [Option.some.injEq, Prod.mk.injEq] at H
      obtain ⟨rfl, rfl⟩ := H
      go_wp2
      go_ret2
      exact ⟨endS, drA⟩
     ·rw [if_neg c20] at H
      have c20b0 : (x5_1 == 0) = false := beq_eq_false_iff_ne.mpr c20
      have c20b1 : (x5_1 != 0) = true := bne_iff_ne.mpr c20
      by_cases c21 : x5_1 = (a0.size : Int)
      ·rw [if_pos c21] at H
       have c21b0 : (x5_1 == (a0.size : Int)) = true := beq_iff_eq.mpr c21
       have c21b1 : (x5_1 != (a0.size : Int)) = false := bne_eq_false_iff_eq.mpr c21
       clear c21
       simp only [Option.some.injEq, Prod.mk.injEq] at H
       obtain ⟨rfl, rfl⟩ := H
       go_wp2
       go_ret2
       exact ⟨endS, drA⟩
      ·rw [if_neg c21] at H
       have c21b0 : (x5_1 == (a0.size : Int)) = false := beq_eq_false_iff_ne.mpr c21
       have c21b1 : (x5_1 != (a0.size : Int)) = true := bne_iff_ne.mpr c21
       by_cases c22 : 0 ≤ x5_1
       ·rw [if_pos c22] at H
        have c22b0 : decide (0 ≤ x5_1) = true := decide_eq_true c22
        clear c22
        by_cases c24 : (bt a0 x5_1) = 125
        ·rw [if_pos c24] at H
         have c24b0 : ((bt a0 x5_1) == 125) = true := beq_iff_eq.mpr c24
         have c24b1 : ((bt a0 x5_1) != 125) = false := bne_eq_false_iff_eq.mpr c24
         clear c24
         by_cases c25 : 0 < (a0.size : Int)
         ·rw [if_pos c25] at H
          have c25b0 : decide (0 < (a0.size : Int)) = true := decide_eq_true c25
          have c25b1 : decide (0 < a0.size) = true := decide_eq_true (by omega)
          clear c25
          by_cases c27 : (bt a0 0) = 48
          ·rw [if_pos c27] at H
           have c27b0 : ((bt a0 0) == 48) = true := beq_iff_eq.mpr c27
           have c27b1 : ((bt a0 0) != 48) = false := bne_eq_false_iff_eq.mpr c27
           clear c27
           by_cases c28 : x5_1 > 1
           ·rw [if_pos c28] at H
            have c28b0 : decide (1 < x5_1) = true := decide_eq_true c28
            clear c28
            simp only [Option.some.injEq, Prod.mk.injEq] at H
            obtain ⟨rfl, rfl⟩ := H
            have p23 : 0 ≤ (x5_1 : Int) := odA
            have q23 : x5_1 < (a0.size : Int) := odA
            have hx23 := bt_at a0 x5_1
            replace p23 := eq_true p23
            replace q23 := eq_true q23
            have p26 : 0 ≤ (0 : Int) := (by omega)
            have q26 : 0 < a0.size := (by have : (0 : Int) < (a0.size : Int) := odA; omega)
            have hx26 : ∀ h : 0 < a0.size, ((a0[0]'h).toNat : Int) = bt a0 0 := bt_at a0 0
            clear p26
            have qi26 : (0 < (a0.size : Int)) = True := eq_true (odA)
            replace q26 := eq_true q26
            go_wp2
            go_ret2
            exact ⟨endS, drA⟩
           ·rw [if_neg c28] at H
            have c28b0 : decide (1 < x5_1) = false := decide_eq_false c28
            clear c28
            by_cases c29 : x4_1 > 1114111
            ·rw [if_pos c29] at H
             have c29b0 : decide (1114111 < x4_1) = true := decide_eq_true c29
             clear c29
             simp only [Option.some.injEq, Prod.mk.injEq] at H
             obtain ⟨rfl, rfl⟩ := H
             have p23 : 0 ≤ (x5_1 : Int) := odA
             have q23 : x5_1 < (a0.size : Int) := odA
             have hx23 := bt_at a0 x5_1
             replace p23 := eq_true p23
             replace q23 := eq_true q23
             have p26 : 0 ≤ (0 : Int) := (by omega)
             have q26 : 0 < a0.size := (by have : (0 : Int) < (a0.size : Int) := odA; omega)
             have hx26 : ∀ h : 0 < a0.size, ((a0[0]'h).toNat : Int) = bt a0 0 := bt_at a0 0
             clear p26
             have qi26 : (0 < (a0.size : Int)) = True := eq_true (odA)
             replace q26 := eq_true q26
             go_wp2
             go_ret2
             exact ⟨endS, drA⟩
            ·rw [if_neg c29] at H
             have c29b0 : decide (1114111 < x4_1) = false := decide_eq_false c29
             clear c29
             simp only [Option.some.injEq, Prod.mk.injEq] at H
             obtain ⟨rfl, rfl⟩ := H
             have p23 : 0 ≤ (x5_1 : Int) := odA
             have q23 : x5_1 < (a0.size : Int) := odA
             have hx23 := bt_at a0 x5_1
             replace p23 := eq_true p23
             replace q23 := eq_true q23
             have p26 : 0 ≤ (0 : Int) := (by omega)
             have q26 : 0 < a0.size := (by have : (0 : Int) < (a0.size : Int) := odA; omega)
             have hx26 : ∀ h : 0 < a0.size, ((a0[0]'h).toNat : Int) = bt a0 0 := bt_at a0 0
             clear p26
             have qi26 : (0 < (a0.size : Int)) = True := eq_true (odA)
             replace q26 := eq_true q26
             go_wp2
             go_ret2
             exact ⟨endS, drA⟩
          ·rw [if_neg c27] at H
           have c27b0 : ((bt a0 0) == 48) = false := beq_eq_false_iff_ne.mpr c27
           have c27b1 : ((bt a0 0) != 48) = true := bne_iff_ne.mpr c27
           by_cases c30 : x4_1 > 1114111
           ·rw [if_pos c30] at H
            have c30b0 : decide (1114111 < x4_1) = true := decide_eq_true c30
            clear c30
            simp only [Option.some.injEq, Prod.mk.injEq] at H
            obtain ⟨rfl, rfl⟩ := H
            have p23 : 0 ≤ (x5_1 : Int) := odA
            have q23 : x5_1 < (a0.size : Int) := odA
            have hx23 := bt_at a0 x5_1
            replace p23 := eq_true p23
            replace q23 := eq_true q23
            have p26 : 0 ≤ (0 : Int) := (by omega)
            have q26 : 0 < a0.size := (by have : (0 : Int) < (a0.size : Int) := odA; omega)
            have hx26 : ∀ h : 0 < a0.size, ((a0[0]'h).toNat : Int) = bt a0 0 := bt_at a0 0
            clear p26
            have qi26 : (0 < (a0.size : Int)) = True := eq_true (odA)
            replace q26 := eq_true q26
            go_wp2
            go_ret2
            exact ⟨endS, drA⟩
           ·rw [if_neg c30] at H
            have c30b0 : decide (1114111 < x4_1) = false := decide_eq_false c30
            clear c30
            simp only [Option.some.injEq, Prod.mk.injEq] at H
            obtain ⟨rfl, rfl⟩ := H
            have p23 : 0 ≤ (x5_1 : Int) := odA
            have q23 : x5_1 < (a0.size : Int) := odA
            have hx23 := bt_at a0 x5_1
            replace p23 := eq_true p23
            replace q23 := eq_true q23
            have p26 : 0 ≤ (0 : Int) := (by omega)
            have q26 : 0 < a0.size := (by have : (0 : Int) < (a0.size : Int) := odA; omega)
            have hx26 : ∀ h : 0 < a0.size, ((a0[0]'h).toNat : Int) = bt a0 0 := bt_at a0 0
            clear p26
            have qi26 : (0 < (a0.size : Int)) = True := eq_true (odA)
            replace q26 := eq_true q26
            go_wp2
            go_ret2
            exact ⟨endS, drA⟩
         ·rw [if_neg c25] at H
          exact absurd H (by simp)
        ·rw [if_neg c24] at H
         have c24b0 : ((bt a0 x5_1) == 125) = false := beq_eq_false_iff_ne.mpr c24
         have c24b1 : ((bt a0 x5_1) != 125) = true := bne_iff_ne.mpr c24
         simp only [Option.some.injEq, Prod.mk.injEq] at H
         obtain ⟨rfl, rfl⟩ := H
         have p23 : 0 ≤ (x5_1 : Int) := odA
         have q23 : x5_1 < (a0.size : Int) := odA
         have hx23 := bt_at a0 x5_1
         replace p23 := eq_true p23
         replace q23 := eq_true q23
         go_wp2
         go_ret2
         exact ⟨endS, drA⟩
       ·rw [if_neg c22] at H
        exact absurd H (by simp)
   ·rw [if_neg c2] at H
    have c2b0 : decide (x5_1 < (a0.size : Int)) = false := decide_eq_false c2
    clear c2
    by_cases c31 : x5_1 = 0
    ·rw [if_pos c31] at H
     have c31b0 : (x5_1 == 0) = true := beq_iff_eq.mpr c31
     have c31b1 : (x5_1 != 0) = false := bne_eq_false_iff_eq.mpr c31
     clear c31
     simp only [Option.some.injEq, Prod.mk.injEq] at H
     obtain ⟨rfl, rfl⟩ := H
     go_wp2
     go_ret2
     exact ⟨endS, drA⟩
    ·rw [if_neg c31] at H
     have c31b0 : (x5_1 == 0) = false := beq_eq_false_iff_ne.mpr c31
     have c31b1 : (x5_1 != 0) = true := bne_iff_ne.mpr c31
     by_cases c32 : x5_1 = (a0.size : Int)
     ·rw [if_pos c32] at H
      have c32b0 : (x5_1 == (a0.size : Int)) = true := beq_iff_eq.mpr c32
      have c32b1 : (x5_1 != (a0.size : Int)) = false := bne_eq_false_iff_eq.mpr c32
      clear c32
      simp only [Option.some.injEq, Prod.mk.injEq] at H
      obtain ⟨rfl, rfl⟩ := H
      go_wp2
      go_ret2
      exact ⟨endS, drA⟩
     ·rw [if_neg c32] at H
      have c32b0 : (x5_1 == (a0.size : Int)) = false := beq_eq_false_iff_ne.mpr c32
      have c32b1 : (x5_1 != (a0.size : Int)) = true := bne_iff_ne.mpr c32
      by_cases c33 : 0 ≤ x5_1
      ·rw [if_pos c33] at H
       exact absurd H (by simp)
      ·rw [if_neg c33] at H
       exact absurd H (by simp)

end Go.Proofs.YtplemgmfnghoeaaGreatDoor.A
