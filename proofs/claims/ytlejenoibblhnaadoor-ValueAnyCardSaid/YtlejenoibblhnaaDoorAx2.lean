-- By drv.py, the session's own driver round the kit's print: the machine's side of the laws, function by function. Not trusted: Lean checks it.
import Derived.Test.YtlejenoibblhnaaDoorAx0
namespace Go.Proofs.YtlejenoibblhnaaDoor.A
open Go.RowKit Go.Proofs.YtlejenoibblhnaaDoorW.PrintWords Go.Proofs.YtlejenoibblhnaaDoorW.PrintLast Go.Proofs.YtlejenoibblhnaaDoorW.PrintMore
attribute [local go_sem] max2_int min2_int max_two min_two max_three min_three max_four min_four   -- for this text's walks alone
set_option linter.unusedVariables false
set_option linter.unusedSimpArgs false

/-! ### caduceuslaw03_few: function 5 -/
def caduceuslaw03_few.f (a0 : ByteArray) : Option (Bool) := some (decide ((a0.size : Int) ≤ 2000))
set_option maxHeartbeats 8000000 in
set_option maxRecDepth 100000 in
theorem caduceuslaw03_few.calls (a0 : ByteArray) (r : Bool) (w : World) (h : caduceuslaw03_few.f a0 = some r) :
  Calls Tryd.prog 5 #[.string a0] w fun e w' => e = .returned (.bool r) ∧ Drawn0 w w' := by
 unfold caduceuslaw03_few.f at h
 have H := h
 clear h
 obtain rfl := Option.some.inj H
 go_enter Tryd.func5, Tryd.ntmps5
 go_wp2
 go_ret
 exact ⟨endS, drA⟩

/-! ### stringslite_HasPrefix: function 38 -/
def stringslite_HasPrefix.f (a0 : ByteArray) (a1 : ByteArray) : Option (Bool) := if (a0.size : Int) ≥ (a1.size : Int) then (if 0 ≤ (a1.size : Int) then (if (a1.size : Int) ≤ (a0.size : Int) then (some ((a0.extract 0 ((a1.size : Int) : Int).toNat).toList == a1.toList)) else (none)) else (none)) else (some false)
set_option maxHeartbeats 8000000 in
set_option maxRecDepth 100000 in
theorem stringslite_HasPrefix.calls (a0 : ByteArray) (a1 : ByteArray) (r : Bool) (w : World) (h : stringslite_HasPrefix.f a0 a1 = some r) :
  Calls Tryd.prog 38 #[.string a0, .string a1] w fun e w' => e = .returned (.bool r) ∧ Drawn0 w w' := by
 unfold stringslite_HasPrefix.f at h
 have H := h
 clear h
 revert H; refine itR ?L1p ?L1n
 case' L1p =>
  intro c3 H
  have c3b0 := geT c3
  have c3b1 : decide (a1.size ≤ a0.size) = true := decide_eq_true (Int.ofNat_le.mp c3)
  clear c3
  replace H := itN H
  obtain ⟨c4, H⟩ := H
  have c4b0 := eq_true c4
  have c4b1 := decide_eq_true c4
  clear c4
  replace H := itN H
  obtain ⟨c5, H⟩ := H
  have c5b0 := eq_true c5
  have c5b1 := decide_eq_true c5
  clear c5
  obtain rfl := Option.some.inj H
 case' L1n =>
  intro c3 H
  have c3b0 := geF c3
  have c3b1 : decide (a1.size ≤ a0.size) = false := decide_eq_false (fun h => c3 (Int.ofNat_le.mpr h))
  clear c3
  obtain rfl := Option.some.inj H
 all_goals
  case _ =>
   go_enter Tryd.func38, Tryd.ntmps38
   go_wp2
   go_ret
   exact ⟨endS, drA⟩
/-! ### strings_HasPrefix: function 24 -/
def strings_HasPrefix.f (a0 : ByteArray) (a1 : ByteArray) : Option (Bool) := (stringslite_HasPrefix.f a0 a1).bind fun t101 => (some t101)
set_option maxHeartbeats 8000000 in
set_option maxRecDepth 100000 in
theorem strings_HasPrefix.calls (a0 : ByteArray) (a1 : ByteArray) (r : Bool) (w : World) (h : strings_HasPrefix.f a0 a1 = some r) :
  Calls Tryd.prog 24 #[.string a0, .string a1] w fun e w' => e = .returned (.bool r) ∧ Drawn0 w w' := by
 unfold strings_HasPrefix.f at h
 have H := h
 clear h
 replace H := Option.bind_eq_some_iff.mp H
 obtain ⟨t101, A30, H⟩ := H
 replace H : (some t101) = some r := H
 have A3 := Aside0.mk A30
 clear A30
 obtain rfl := Option.some.inj H
 go_enter Tryd.func24, Tryd.ntmps24
 go_wp2_with (first | ((with_reducible refine gate_callee (f := 38) rfl ?_); refine goesA (some 7) Tryd.func38 #[.string a0, .string a1] ?_; (with_reducible refine (stringslite_HasPrefix.calls a0 a1 t101 _ A3.out).mono ?_); rintro e w' ⟨rfl, ⟨nd, rfl⟩⟩; refine ⟨_, rfl, ?_⟩))
 go_ret
 exact ⟨endS, drA⟩

/-! ### strconv_FormatInt: function 47, by hand -/
def strconv_FormatInt.f (a0 : Int) (a1 : Int) : Option ByteArray := if a1 = 16 ∧ 0 ≤ a0 ∧ a0 < 256 then some (hexStr a0) else none
theorem pow2_16 (w : World) : Calls Tryd.prog 76 #[.int .i64 16] w fun e w' => e = .returned (.bool true) ∧ w' = w := by
 go_enter Tryd.func76, Tryd.ntmps76
 go_wp2
 go_ret
 exact ⟨rfl, rfl⟩
def digs : ByteArray := ⟨#[48, 49, 50, 51, 52, 53, 54, 55, 56, 57, 97, 98, 99, 100, 101, 102, 103, 104, 105, 106, 107, 108, 109, 110, 111, 112, 113, 114, 115, 116, 117, 118, 119, 120, 121, 122]⟩
theorem digs_at' : ∀ n : Fin 16, ((digs[n.val]'(by have := n.isLt; show n.val < 36; omega)).toNat : Int) = hexd n.val := by decide
theorem digs_at (n : Nat) (h : n < 16) (hp : n < digs.size) : ((digs[n]'hp).toNat : Int) = hexd n := digs_at' ⟨n, h⟩
theorem conv64 (w : World) (D : Int) : (convert 22 9 (.slice (some ⟨w.heap.size, 64, none⟩) 1 1)).run Tryd.prog (w.alloc (.cells (Tryd.zeroCells103.setIfInBounds 64 (.int .u8 D)) 103)) = .ok (.string (strOfNums [D])) (w.alloc (.cells (Tryd.zeroCells103.setIfInBounds 64 (.int .u8 D)) 103)) := by
 refine run_convert_bytes_arg _ 22 5 Tryd.underlying22 Tryd.underlying5 w.heap.size 64 1 1 [D] rfl (fun i hi => ?_) 9 Tryd.underlying9
 obtain rfl : i = 0 := by omega
 have hz : Tryd.zeroCells103.size = 65 := by kernel_rfl
 have hn := heap_alloc_new w (.cells (Tryd.zeroCells103.setIfInBounds 64 (.int .u8 D)) 103)
 exact (Lib.cell_of_heap hn (64 + 0)).trans (by simp [hz])
set_option maxRecDepth 100000 in
theorem formatBits16_lo (n : Nat) (h1 : n < 16) (w : World) (hT : Tabs w) :
  Calls Tryd.prog 61 #[.slice none 0 0, .int .u64 n, .int .i64 16, .bool false, .bool false] w fun e w' => e = .returned (.tuple #[.slice none 0 0, .string (hexStr n)]) ∧ Below w.heap.size w w' := by
 have h1z : (n : Int) < 16 := by omega
 have b1 : decide ((n : Int) ≥ 16) = false := decide_eq_false (by omega)
 have c2 : ∀ W, Tabs W → Calls Tryd.prog 77 #[.int .u64 16] W _ := fun W hW => Tryd.bits_TrailingZeros 16 (by omega) W (fun _ => hW.tz)
 have k4 : (Lib.ctz 64 16 : Int) = 4 := by decide
 rw [k4] at c2
 have hcv := fun D => conv64 w D
 go_enter Tryd.func61, Tryd.ntmps61
 go_wp2_with (first | (go_at_call 76; refine (pow2_16 _).mono ?_; rintro e w1 ⟨rfl, rfl⟩) | (go_at_call 77; refine (c2 _ (hT.below ((Below.refl _ _).alloc (Nat.le_refl _) _))).mono ?_; rintro e w1 ⟨rfl, rfl⟩))
 refine wp_loop_rounds 1 ?_
 rw [rounds_succ]
 go_wp2
 have hx : hexStr n = strOfNums [((digs[n]'(by show n < 36; omega)).toNat : Int)] := by
  unfold hexStr; rw [if_pos h1z, digs_at n h1]
 rw [hx]
 go_ret2
 exact ⟨rfl, (Below.refl _ _).alloc (Nat.le_refl _) _⟩
theorem conv63 (w : World) (D E : Int) : (convert 22 9 (.slice (some ⟨w.heap.size, 63, none⟩) 2 2)).run Tryd.prog (w.alloc (.cells ((Tryd.zeroCells103.setIfInBounds 64 (.int .u8 D)).setIfInBounds 63 (.int .u8 E)) 103)) = .ok (.string (strOfNums [E, D])) (w.alloc (.cells ((Tryd.zeroCells103.setIfInBounds 64 (.int .u8 D)).setIfInBounds 63 (.int .u8 E)) 103)) := by
 refine run_convert_bytes_arg _ 22 5 Tryd.underlying22 Tryd.underlying5 w.heap.size 63 2 2 [E, D] rfl (fun i hi => ?_) 9 Tryd.underlying9
 have hz : Tryd.zeroCells103.size = 65 := by kernel_rfl
 have hn := heap_alloc_new w (.cells ((Tryd.zeroCells103.setIfInBounds 64 (.int .u8 D)).setIfInBounds 63 (.int .u8 E)) 103)
 obtain rfl | rfl : i = 0 ∨ i = 1 := by omega
 ·exact (Lib.cell_of_heap hn (63 + 0)).trans (by simp [hz])
 ·exact (Lib.cell_of_heap hn (63 + 1)).trans (by simp [hz])
set_option maxRecDepth 100000 in
theorem formatBits16_hi (n p q : Nat) (hn : n = 16 * p + q) (hp0 : 0 < p) (hp : p < 16) (hq : q < 16) (w : World) (hT : Tabs w) :
  Calls Tryd.prog 61 #[.slice none 0 0, .int .u64 n, .int .i64 16, .bool false, .bool false] w fun e w' => e = .returned (.tuple #[.slice none 0 0, .string (strOfNums [hexd p, hexd q])]) ∧ Below w.heap.size w w' := by
 have b1 : decide ((n : Int) ≥ 16) = true := decide_eq_true (by omega)
 have b2 : decide ((p : Int) ≥ 16) = false := decide_eq_false (by omega)
 have c2 : ∀ W, Tabs W → Calls Tryd.prog 77 #[.int .u64 16] W _ := fun W hW => Tryd.bits_TrailingZeros 16 (by omega) W (fun _ => hW.tz)
 have k4 : (Lib.ctz 64 16 : Int) = 4 := by decide
 rw [k4] at c2
 have hcv := fun D E => conv63 w D E
 have ha : bits .and .u64 (n : Int) 15 = (q : Int) := by
  rw [show ((15 : Int)) = ((15 : Nat) : Int) from rfl, u64_and_nat n 15 (by omega) (by omega), show n &&& 15 = n % 16 from Nat.and_two_pow_sub_one_eq_mod n 4]
  omega
 have hs : (n : Int) / 16 = (p : Int) := by omega
 have hpz : (p : Int) < 36 := by omega
 have hqz : (q : Int) < 36 := by omega
 have hp36 : p < 36 := by omega
 have hq36 : q < 36 := by omega
 clear hn
 go_enter Tryd.func61, Tryd.ntmps61
 go_wp2_with (first | (go_at_call 76; refine (pow2_16 _).mono ?_; rintro e w1 ⟨rfl, rfl⟩) | (go_at_call 77; refine (c2 _ (hT.below ((Below.refl _ _).alloc (Nat.le_refl _) _))).mono ?_; rintro e w1 ⟨rfl, rfl⟩))
 refine wp_loop_rounds 2 ?_
 rw [rounds_succ]
 go_wp2
 rw [rounds_succ]
 go_wp2
 have hx : strOfNums [hexd p, hexd q] = strOfNums [((digs[p]'hp36).toNat : Int), ((digs[q]'hq36).toNat : Int)] := by
  rw [digs_at p hp hp36, digs_at q hq hq36]
 rw [hx]
 go_ret2
 exact ⟨rfl, (Below.refl _ _).alloc (Nat.le_refl _) _⟩
theorem formatBits16 (n : Nat) (h1 : n < 256) (w : World) (hT : Tabs w) :
  Calls Tryd.prog 61 #[.slice none 0 0, .int .u64 n, .int .i64 16, .bool false, .bool false] w fun e w' => e = .returned (.tuple #[.slice none 0 0, .string (hexStr n)]) ∧ Below w.heap.size w w' := by
 by_cases h : n < 16
 ·exact formatBits16_lo n h w hT
 ·have e : hexStr n = strOfNums [hexd (n / 16 : Nat), hexd (n % 16 : Nat)] := by
   unfold hexStr; rw [if_neg (by omega)]
   exact congrArg strOfNums (by congr 1)
  rw [e]
  exact formatBits16_hi n (n / 16) (n % 16) (by omega) (by omega) (by omega) (by omega) w hT
theorem strconvFormatInt16 (n : Nat) (h1 : n < 256) (w : World) (hT : Tabs w) :
  Calls Tryd.prog 45 #[.int .i64 n, .int .i64 16] w fun e w' => e = .returned (.string (hexStr n)) ∧ Below w.heap.size w w' := by
 have b1 : decide ((n : Int) < 0) = false := decide_eq_false (by omega)
 have cF := formatBits16 n h1 w hT
 generalize hexStr n = E at cF ⊢
 go_enter Tryd.func45, Tryd.ntmps45
 go_wp2_with (go_at_call 61; refine cF.mono ?_; rintro e w1 ⟨rfl, hb⟩)
 go_ret
 exact ⟨rfl, hb⟩
theorem strconv_FormatInt.calls (a0 : Int) (a1 : Int) (r : ByteArray) (w : World) (hT : Tabs w) (h : strconv_FormatInt.f a0 a1 = some r) :
  Calls Tryd.prog 47 #[.int .i64 a0, .int .i64 a1] w fun e w' => e = .returned (.string r) ∧ Below w.heap.size w w' := by
 unfold strconv_FormatInt.f at h
 split at h
 ·rename_i hs
  obtain rfl := Option.some.inj h
  obtain ⟨rfl, h0, h1⟩ := hs
  obtain ⟨n, rfl⟩ := Int.eq_ofNat_of_zero_le h0
  have cF := strconvFormatInt16 n (by omega) w hT
  clear h h0
  generalize hexStr n = E at cF ⊢
  go_enter Tryd.func47, Tryd.ntmps47
  go_wp2_with (go_at_call 45; refine cF.mono ?_; rintro e w1 ⟨rfl, hb⟩)
  go_ret
  exact ⟨rfl, hb⟩
 ·cases h

/-! ### value_escape: function 31, by hand -/
def value_escape.f (a0 : Int) : Option ByteArray := if 0 ≤ a0 then some (escB a0) else none
theorem value_escape.calls (a0 : Int) (r : ByteArray) (w : World) (hT : Tabs w) (h : value_escape.f a0 = some r) :
  Calls Tryd.prog 31 #[.int .i32 a0] w fun e w' => e = .returned (.string r) ∧ Below w.heap.size w w' := by
 unfold value_escape.f at h
 split at h
 ·rename_i h0
  obtain rfl := Option.some.inj h
  clear h
  have hs4 := encode_le4 a0
  have hs2 := hexStr_size a0
  by_cases e1 : a0 = 34
  ·subst e1
   go_enter Tryd.func31, Tryd.ntmps31
   go_wp2
   go_ret
   exact ⟨rfl, Below.refl _ _⟩
  by_cases e2 : a0 = 92
  ·subst e2
   go_enter Tryd.func31, Tryd.ntmps31
   go_wp2
   go_ret
   exact ⟨rfl, Below.refl _ _⟩
  by_cases e3 : a0 = 10
  ·subst e3
   go_enter Tryd.func31, Tryd.ntmps31
   go_wp2
   go_ret
   exact ⟨rfl, Below.refl _ _⟩
  by_cases e4 : a0 = 9
  ·subst e4
   go_enter Tryd.func31, Tryd.ntmps31
   go_wp2
   go_ret
   exact ⟨rfl, Below.refl _ _⟩
  by_cases e5 : a0 = 13
  ·subst e5
   go_enter Tryd.func31, Tryd.ntmps31
   go_wp2
   go_ret
   exact ⟨rfl, Below.refl _ _⟩
  have b1 : (a0 == 34) = false := beq_eq_false_iff_ne.2 e1
  have b2 : (a0 == 92) = false := beq_eq_false_iff_ne.2 e2
  have b3 : (a0 == 10) = false := beq_eq_false_iff_ne.2 e3
  have b4 : (a0 == 9) = false := beq_eq_false_iff_ne.2 e4
  have b5 : (a0 == 13) = false := beq_eq_false_iff_ne.2 e5
  by_cases h6 : a0 < 32 ∨ a0 = 127
  ·have he : escB a0 = (⟨#[92, 117, 123]⟩ : ByteArray) ++ hexStr a0 ++ (⟨#[125]⟩ : ByteArray) := by
    unfold escB; rw [if_neg (by omega), if_neg e3, if_neg e4, if_neg e5, if_pos h6]
   rw [he]
   clear he
   have cF : ∀ W, Tabs W → Calls Tryd.prog 47 #[.int .i64 a0, .int .i64 16] W _ := fun W hW => strconv_FormatInt.calls a0 16 (hexStr a0) W hW (by unfold strconv_FormatInt.f; rw [if_pos ⟨rfl, h0, by omega⟩])
   generalize hexStr a0 = E at hs2 cF ⊢
   clear e1 e2 e3 e4 e5
   by_cases h7 : a0 < 32
   ·have b6 : decide (a0 < 32) = true := decide_eq_true h7
    clear h6
    go_enter Tryd.func31, Tryd.ntmps31
    go_wp2_with (go_at_call 47; refine (cF _ hT).mono ?_; rintro e w1 ⟨rfl, hb⟩)
    go_ret
    exact ⟨rfl, hb⟩
   ·have b6 : decide (a0 < 32) = false := decide_eq_false h7
    obtain rfl : a0 = 127 := by omega
    clear h6
    go_enter Tryd.func31, Tryd.ntmps31
    go_wp2_with (go_at_call 47; refine (cF _ hT).mono ?_; rintro e w1 ⟨rfl, hb⟩)
    go_ret
    exact ⟨rfl, hb⟩
  ·have b6 : decide (a0 < 32) = false := decide_eq_false (by omega)
   have b7 : (a0 == 127) = false := beq_eq_false_iff_ne.2 (by omega)
   have he : escB a0 = Utf8.encode a0 := by
    unfold escB; rw [if_neg (by omega), if_neg e3, if_neg e4, if_neg e5, if_neg h6]
   rw [he]
   clear he e1 e2 e3 e4 e5 h6
   go_enter Tryd.func31, Tryd.ntmps31
   go_wp2
   go_ret
   exact ⟨rfl, Below.refl _ _⟩
 ·cases h
/-! ### utf8_DecodeRuneInString: function 49, by hand -/
def utf8_DecodeRuneInString.f (a0 : ByteArray) : Option (Int × Int) := some (((Lib.decodeGo a0).1 : Int), ((Lib.decodeGo a0).2 : Int))
theorem utf8_DecodeRuneInString.calls (a0 : ByteArray) (r1 : Int) (r2 : Int) (w : World) (hT : Tabs w) (h : utf8_DecodeRuneInString.f a0 = some (r1, r2)) :
  Calls Tryd.prog 49 #[.string a0] w fun e w' => e = .returned (.tuple #[.int .i32 r1, .int .i64 r2]) ∧ Below w.heap.size w w' := by
 have h := Option.some.inj h
 simp only [Prod.mk.injEq] at h
 obtain ⟨rfl, rfl⟩ := h
 exact Tryd.utf8_DecodeRuneInString a0 w hT.u8

/-! ### strings_IndexByte: function 52, by hand -/
def strings_IndexByte.f (a0 : ByteArray) (a1 : Int) : Option Int := some (Lib.indexByte a0.data.toList a1.toNat.toUInt8)
theorem strings_IndexByte.calls (a0 : ByteArray) (a1 : Int) (r : Int) (w : World) (h : strings_IndexByte.f a0 a1 = some r) :
  Calls Tryd.prog 52 #[.string a0, .int .u8 a1] w fun e w' => e = .returned (.int .i64 r) ∧ Drawn0 w w' := by
 obtain rfl := Option.some.inj h
 refine (Tryd.strings_IndexByte a0 a1 w).mono ?_
 rintro e w' ⟨he, rfl⟩
 exact ⟨he, Drawn0.refl _⟩

/-! ### value_digit: function 39 -/
def value_digit.f (a0 : Int) : Option (Int) := (strings_IndexByte.f (⟨#[48, 49, 50, 51, 52, 53, 54, 55, 56, 57, 97, 98, 99, 100, 101, 102]⟩ : ByteArray) a0).bind fun t102 => (some t102)
set_option maxHeartbeats 8000000 in
set_option maxRecDepth 100000 in
theorem value_digit.calls (a0 : Int) (r : Int) (w : World) (h : value_digit.f a0 = some r) :
  Calls Tryd.prog 39 #[.int .u8 a0] w fun e w' => e = .returned (.int .i64 r) ∧ Drawn0 w w' := by
 unfold value_digit.f at h
 have H := h
 clear h
 replace H := Option.bind_eq_some_iff.mp H
 obtain ⟨t102, A20, H⟩ := H
 replace H : (some t102) = some r := H
 have A2 := Aside0.mk A20
 clear A20
 obtain rfl := Option.some.inj H
 go_enter Tryd.func39, Tryd.ntmps39
 go_wp2_with (first | ((with_reducible refine gate_callee (f := 52) rfl ?_); refine goesA (some 4) Tryd.func52 #[.string (⟨#[48, 49, 50, 51, 52, 53, 54, 55, 56, 57, 97, 98, 99, 100, 101, 102]⟩ : ByteArray), .int .u8 a0] ?_; (with_reducible refine (strings_IndexByte.calls (⟨#[48, 49, 50, 51, 52, 53, 54, 55, 56, 57, 97, 98, 99, 100, 101, 102]⟩ : ByteArray) a0 t102 _ A2.out).mono ?_); rintro e w' ⟨rfl, ⟨nd, rfl⟩⟩; refine ⟨_, rfl, ?_⟩))
 go_ret
 exact ⟨endS, drA⟩

end Go.Proofs.YtlejenoibblhnaaDoor.A
