-- By drv.py, the session's own driver round the kit's print: the machine's side of the laws, function by function. Not trusted: Lean checks it.
import Derived.Test.YtkdndabpaajkaaaGreatDoorAx0
namespace Go.Proofs.YtkdndabpaajkaaaGreatDoor.A
open Go.RowKit Go.Proofs.YtkdndabpaajkaaaGreatDoorW.PrintWords Go.Proofs.YtkdndabpaajkaaaGreatDoorW.PrintLast Go.Proofs.YtkdndabpaajkaaaGreatDoorW.PrintMore
attribute [local go_sem] max2_int min2_int max_two min_two max_three min_three max_four min_four   -- for this text's walks alone
set_option linter.unusedVariables false
set_option linter.unusedSimpArgs false

/-! ### strconv_FormatInt: function 245, by hand -/
def strconv_FormatInt.f (a0 : Int) (a1 : Int) : Option ByteArray := if a1 = 16 ∧ 0 ≤ a0 ∧ a0 < 256 then some (hexStr a0) else none
theorem pow2_16 (w : World) : Calls Tryz.prog 273 #[.int .i64 16] w fun e w' => e = .returned (.bool true) ∧ w' = w := by
 go_enter Tryz.func273, Tryz.ntmps273
 go_wp2
 go_ret
 exact ⟨rfl, rfl⟩
def digs : ByteArray := ⟨#[48, 49, 50, 51, 52, 53, 54, 55, 56, 57, 97, 98, 99, 100, 101, 102, 103, 104, 105, 106, 107, 108, 109, 110, 111, 112, 113, 114, 115, 116, 117, 118, 119, 120, 121, 122]⟩
theorem digs_at' : ∀ n : Fin 16, ((digs[n.val]'(by have := n.isLt; show n.val < 36; omega)).toNat : Int) = hexd n.val := by decide
theorem digs_at (n : Nat) (h : n < 16) (hp : n < digs.size) : ((digs[n]'hp).toNat : Int) = hexd n := digs_at' ⟨n, h⟩
theorem conv64 (w : World) (D : Int) : (convert 160 9 (.slice (some ⟨w.heap.size, 64, none⟩) 1 1)).run Tryz.prog (w.alloc (.cells (Tryz.zeroCells283.setIfInBounds 64 (.int .u8 D)) 283)) = .ok (.string (strOfNums [D])) (w.alloc (.cells (Tryz.zeroCells283.setIfInBounds 64 (.int .u8 D)) 283)) := by
 refine run_convert_bytes_arg _ 160 5 Tryz.underlying160 Tryz.underlying5 w.heap.size 64 1 1 [D] rfl (fun i hi => ?_) 9 Tryz.underlying9
 obtain rfl : i = 0 := by omega
 have hz : Tryz.zeroCells283.size = 65 := by kernel_rfl
 have hn := heap_alloc_new w (.cells (Tryz.zeroCells283.setIfInBounds 64 (.int .u8 D)) 283)
 exact (Lib.cell_of_heap hn (64 + 0)).trans (by simp [hz])
set_option maxRecDepth 100000 in
theorem formatBits16_lo (n : Nat) (h1 : n < 16) (w : World) (hT : Tabs w) :
  Calls Tryz.prog 250 #[.slice none 0 0, .int .u64 n, .int .i64 16, .bool false, .bool false] w fun e w' => e = .returned (.tuple #[.slice none 0 0, .string (hexStr n)]) ∧ Below w.heap.size w w' := by
 have h1z : (n : Int) < 16 := by omega
 have b1 : decide ((n : Int) ≥ 16) = false := decide_eq_false (by omega)
 have c2 : ∀ W, Tabs W → Calls Tryz.prog 274 #[.int .u64 16] W _ := fun W hW => Tryz.bits_TrailingZeros 16 (by omega) W (fun _ => hW.tz)
 have k4 : (Lib.ctz 64 16 : Int) = 4 := by decide
 rw [k4] at c2
 have hcv := fun D => conv64 w D
 go_enter Tryz.func250, Tryz.ntmps250
 go_wp2_with (first | (go_at_call 273; refine (pow2_16 _).mono ?_; rintro e w1 ⟨rfl, rfl⟩) | (go_at_call 274; refine (c2 _ (hT.below ((Below.refl _ _).alloc (Nat.le_refl _) _))).mono ?_; rintro e w1 ⟨rfl, rfl⟩))
 refine wp_loop_rounds 1 ?_
 rw [rounds_succ]
 go_wp2
 have hx : hexStr n = strOfNums [((digs[n]'(by show n < 36; omega)).toNat : Int)] := by
  unfold hexStr; rw [if_pos h1z, digs_at n h1]
 rw [hx]
 go_ret2
 exact ⟨rfl, (Below.refl _ _).alloc (Nat.le_refl _) _⟩
theorem conv63 (w : World) (D E : Int) : (convert 160 9 (.slice (some ⟨w.heap.size, 63, none⟩) 2 2)).run Tryz.prog (w.alloc (.cells ((Tryz.zeroCells283.setIfInBounds 64 (.int .u8 D)).setIfInBounds 63 (.int .u8 E)) 283)) = .ok (.string (strOfNums [E, D])) (w.alloc (.cells ((Tryz.zeroCells283.setIfInBounds 64 (.int .u8 D)).setIfInBounds 63 (.int .u8 E)) 283)) := by
 refine run_convert_bytes_arg _ 160 5 Tryz.underlying160 Tryz.underlying5 w.heap.size 63 2 2 [E, D] rfl (fun i hi => ?_) 9 Tryz.underlying9
 have hz : Tryz.zeroCells283.size = 65 := by kernel_rfl
 have hn := heap_alloc_new w (.cells ((Tryz.zeroCells283.setIfInBounds 64 (.int .u8 D)).setIfInBounds 63 (.int .u8 E)) 283)
 obtain rfl | rfl : i = 0 ∨ i = 1 := by omega
 ·exact (Lib.cell_of_heap hn (63 + 0)).trans (by simp [hz])
 ·exact (Lib.cell_of_heap hn (63 + 1)).trans (by simp [hz])
set_option maxRecDepth 100000 in
theorem formatBits16_hi (n p q : Nat) (hn : n = 16 * p + q) (hp0 : 0 < p) (hp : p < 16) (hq : q < 16) (w : World) (hT : Tabs w) :
  Calls Tryz.prog 250 #[.slice none 0 0, .int .u64 n, .int .i64 16, .bool false, .bool false] w fun e w' => e = .returned (.tuple #[.slice none 0 0, .string (strOfNums [hexd p, hexd q])]) ∧ Below w.heap.size w w' := by
 have b1 : decide ((n : Int) ≥ 16) = true := decide_eq_true (by omega)
 have b2 : decide ((p : Int) ≥ 16) = false := decide_eq_false (by omega)
 have c2 : ∀ W, Tabs W → Calls Tryz.prog 274 #[.int .u64 16] W _ := fun W hW => Tryz.bits_TrailingZeros 16 (by omega) W (fun _ => hW.tz)
 have k4 : (Lib.ctz 64 16 : Int) = 4 := by decide
 rw [k4] at c2
 have hcv := fun D E => conv63 w D E
 have ha : bits .and .u64 (n : Int) 15 = (q : Int) := by
  rw [show ((15 : Int)) = ((15 : Nat) : Int) from rfl, u64_and_nat n 15 (by omega) (by omega), show n &&& 15 = n % 16 from Nat.and_two_pow_sub_one_eq_mod n 4]
  omega
 have hs : (n : Int) / 16 = (p : Int) := by omega
 have hpz : (p : Int) < 36 := by omega
 have hqz : (q : Int) < 36 := by omega
 have hp36 : p < 36 := by omega
 have hq36 : q < 36 := by omega
 clear hn
 go_enter Tryz.func250, Tryz.ntmps250
 go_wp2_with (first | (go_at_call 273; refine (pow2_16 _).mono ?_; rintro e w1 ⟨rfl, rfl⟩) | (go_at_call 274; refine (c2 _ (hT.below ((Below.refl _ _).alloc (Nat.le_refl _) _))).mono ?_; rintro e w1 ⟨rfl, rfl⟩))
 refine wp_loop_rounds 2 ?_
 rw [rounds_succ]
 go_wp2
 rw [rounds_succ]
 go_wp2
 have hx : strOfNums [hexd p, hexd q] = strOfNums [((digs[p]'hp36).toNat : Int), ((digs[q]'hq36).toNat : Int)] := by
  rw [digs_at p hp hp36, digs_at q hq hq36]
 rw [hx]
 go_ret2
 exact ⟨rfl, (Below.refl _ _).alloc (Nat.le_refl _) _⟩
theorem formatBits16 (n : Nat) (h1 : n < 256) (w : World) (hT : Tabs w) :
  Calls Tryz.prog 250 #[.slice none 0 0, .int .u64 n, .int .i64 16, .bool false, .bool false] w fun e w' => e = .returned (.tuple #[.slice none 0 0, .string (hexStr n)]) ∧ Below w.heap.size w w' := by
 by_cases h : n < 16
 ·exact formatBits16_lo n h w hT
 ·have e : hexStr n = strOfNums [hexd (n / 16 : Nat), hexd (n % 16 : Nat)] := by
   unfold hexStr; rw [if_neg (by omega)]
   exact congrArg strOfNums (by congr 1)
  rw [e]
  exact formatBits16_hi n (n / 16) (n % 16) (by omega) (by omega) (by omega) (by omega) w hT
theorem strconvFormatInt16 (n : Nat) (h1 : n < 256) (w : World) (hT : Tabs w) :
  Calls Tryz.prog 228 #[.int .i64 n, .int .i64 16] w fun e w' => e = .returned (.string (hexStr n)) ∧ Below w.heap.size w w' := by
 have b1 : decide ((n : Int) < 0) = false := decide_eq_false (by omega)
 have cF := formatBits16 n h1 w hT
 generalize hexStr n = E at cF ⊢
 go_enter Tryz.func228, Tryz.ntmps228
 go_wp2_with (go_at_call 250; refine cF.mono ?_; rintro e w1 ⟨rfl, hb⟩)
 go_ret
 exact ⟨rfl, hb⟩
theorem strconv_FormatInt.calls (a0 : Int) (a1 : Int) (r : ByteArray) (w : World) (hT : Tabs w) (h : strconv_FormatInt.f a0 a1 = some r) :
  Calls Tryz.prog 245 #[.int .i64 a0, .int .i64 a1] w fun e w' => e = .returned (.string r) ∧ Below w.heap.size w w' := by
 unfold strconv_FormatInt.f at h
 split at h
 ·rename_i hs
  obtain rfl := Option.some.inj h
  obtain ⟨rfl, h0, h1⟩ := hs
  obtain ⟨n, rfl⟩ := Int.eq_ofNat_of_zero_le h0
  have cF := strconvFormatInt16 n (by omega) w hT
  clear h h0
  generalize hexStr n = E at cF ⊢
  go_enter Tryz.func245, Tryz.ntmps245
  go_wp2_with (go_at_call 228; refine cF.mono ?_; rintro e w1 ⟨rfl, hb⟩)
  go_ret
  exact ⟨rfl, hb⟩
 ·cases h

/-! ### value_escape: function 225, by hand -/
def value_escape.f (a0 : Int) : Option ByteArray := if 0 ≤ a0 then some (escB a0) else none
theorem value_escape.calls (a0 : Int) (r : ByteArray) (w : World) (hT : Tabs w) (h : value_escape.f a0 = some r) :
  Calls Tryz.prog 225 #[.int .i32 a0] w fun e w' => e = .returned (.string r) ∧ Below w.heap.size w w' := by
 unfold value_escape.f at h
 split at h
 ·rename_i h0
  obtain rfl := Option.some.inj h
  clear h
  have hs4 := encode_le4 a0
  have hs2 := hexStr_size a0
  by_cases e1 : a0 = 34
  ·subst e1
   go_enter Tryz.func225, Tryz.ntmps225
   go_wp2
   go_ret
   exact ⟨rfl, Below.refl _ _⟩
  by_cases e2 : a0 = 92
  ·subst e2
   go_enter Tryz.func225, Tryz.ntmps225
   go_wp2
   go_ret
   exact ⟨rfl, Below.refl _ _⟩
  by_cases e3 : a0 = 10
  ·subst e3
   go_enter Tryz.func225, Tryz.ntmps225
   go_wp2
   go_ret
   exact ⟨rfl, Below.refl _ _⟩
  by_cases e4 : a0 = 9
  ·subst e4
   go_enter Tryz.func225, Tryz.ntmps225
   go_wp2
   go_ret
   exact ⟨rfl, Below.refl _ _⟩
  by_cases e5 : a0 = 13
  ·subst e5
   go_enter Tryz.func225, Tryz.ntmps225
   go_wp2
   go_ret
   exact ⟨rfl, Below.refl _ _⟩
  have b1 : (a0 == 34) = false := beq_eq_false_iff_ne.2 e1
  have b2 : (a0 == 92) = false := beq_eq_false_iff_ne.2 e2
  have b3 : (a0 == 10) = false := beq_eq_false_iff_ne.2 e3
  have b4 : (a0 == 9) = false := beq_eq_false_iff_ne.2 e4
  have b5 : (a0 == 13) = false := beq_eq_false_iff_ne.2 e5
  by_cases h6 : a0 < 32 ∨ a0 = 127
  ·have he : escB a0 = (⟨#[92, 117, 123]⟩ : ByteArray) ++ hexStr a0 ++ (⟨#[125]⟩ : ByteArray) := by
    unfold escB; rw [if_neg (by omega), if_neg e3, if_neg e4, if_neg e5, if_pos h6]
   rw [he]
   clear he
   have cF : ∀ W, Tabs W → Calls Tryz.prog 245 #[.int .i64 a0, .int .i64 16] W _ := fun W hW => strconv_FormatInt.calls a0 16 (hexStr a0) W hW (by unfold strconv_FormatInt.f; rw [if_pos ⟨rfl, h0, by omega⟩])
   generalize hexStr a0 = E at hs2 cF ⊢
   clear e1 e2 e3 e4 e5
   by_cases h7 : a0 < 32
   ·have b6 : decide (a0 < 32) = true := decide_eq_true h7
    clear h6
    go_enter Tryz.func225, Tryz.ntmps225
    go_wp2_with (go_at_call 245; refine (cF _ hT).mono ?_; rintro e w1 ⟨rfl, hb⟩)
    go_ret
    exact ⟨rfl, hb⟩
   ·have b6 : decide (a0 < 32) = false := decide_eq_false h7
    obtain rfl : a0 = 127 := by omega
    clear h6
    go_enter Tryz.func225, Tryz.ntmps225
    go_wp2_with (go_at_call 245; refine (cF _ hT).mono ?_; rintro e w1 ⟨rfl, hb⟩)
    go_ret
    exact ⟨rfl, hb⟩
  ·have b6 : decide (a0 < 32) = false := decide_eq_false (by omega)
   have b7 : (a0 == 127) = false := beq_eq_false_iff_ne.2 (by omega)
   have he : escB a0 = Utf8.encode a0 := by
    unfold escB; rw [if_neg (by omega), if_neg e3, if_neg e4, if_neg e5, if_neg h6]
   rw [he]
   clear he e1 e2 e3 e4 e5 h6
   go_enter Tryz.func225, Tryz.ntmps225
   go_wp2
   go_ret
   exact ⟨rfl, Below.refl _ _⟩
 ·cases h
/-! ### value_quoted: function 178, by hand -/
def quotedFrom (s : ByteArray) : Nat → Nat → List UInt8
 | 0, _ => []
 | f + 1, pos => if pos < s.size then (escB (Utf8.decode s pos).1).data.toList ++ quotedFrom s f (pos + (Utf8.decode s pos).2) else []
theorem quotedFrom_end (s : ByteArray) (fuel pos : Nat) (h : ¬ pos < s.size) : quotedFrom s fuel pos = [] := by
 cases fuel with
 | zero => rfl
 | succ f => simp [quotedFrom, h]
theorem escB_le (c : Int) : (escB c).size ≤ 6 := by
 have h4 := encode_le4 c
 have h2 := hexStr_size c
 unfold escB
 repeat' split
 all_goals first | (simp only [ByteArray.size_append]; show 1 + _ ≤ 6; omega) | (simp only [ByteArray.size_append]; show 3 + _ + 1 ≤ 6; omega) | (show (2 : Nat) ≤ 6; omega) | omega
def value_quoted.f (a0 : ByteArray) : Option ByteArray := if a0.size ≤ 1099511627776 then some ⟨(34 :: (quotedFrom a0 a0.size 0 ++ [34])).toArray⟩ else none
set_option maxHeartbeats 4000000 in
set_option maxRecDepth 100000 in
theorem value_quoted.calls (a0 : ByteArray) (r : ByteArray) (w : World) (hT : Tabs w) (h : value_quoted.f a0 = some r) :
  Calls Tryz.prog 178 #[.string a0] w fun e w' => e = .returned (.string r) ∧ Below w.heap.size w w' := by
 unfold value_quoted.f at h
 split at h
 ·rename_i hs
  obtain rfl := Option.some.inj h
  clear h
  have hw0 : ∀ W : World, Below w.heap.size w W → Tabs W := fun W hb => hT.below hb
  go_enter Tryz.func178, Tryz.ntmps178
  go_wp2_with fail
  refine (Tryz.Bld_WriteByte w.heap.size w.heap.size [] 34 _ (Lib.IsBuilderF.of (Lib.fresh_isBuilder 162 5 w)) (by simp) (by simp)).mono ?_
  rintro e W1 ⟨rfl, h1, b1, k1⟩
  have bw1 : Below w.heap.size w W1 := ((Below.refl _ w).alloc (Nat.le_refl _) _).trans b1
  have I1 : Lib.IsBuilderF 162 5 w.heap.size w.heap.size (Lib.byteCells [34]) W1 := Or.inr h1
  clear h1 b1 k1
  go_wp2_with fail
  go_loopw [] (fun wr => ∃ (pos fuel : Nat) (acc : List UInt8), Lib.IsBuilderF 162 5 w.heap.size w.heap.size (Lib.byteCells acc) wr ∧ wr.heap[W1.heap.size]? = some (.stringIter a0 pos) ∧ Below w.heap.size w wr ∧ acc ++ quotedFrom a0 fuel pos = 34 :: quotedFrom a0 a0.size 0 ∧ a0.size ≤ pos + fuel ∧ acc.length + 6 * fuel ≤ 1 + 6 * a0.size) (fun wr => a0.size - wr.iterPos W1.heap.size)
  case atStart =>
   refine ⟨0, a0.size, [34], I1.alloc _, World.iter_heap W1 a0 0, bw1.alloc bw1.size _, rfl, by omega, by simp⟩
  case round =>
   obtain ⟨pos, fuel, acc, hI, hit, hbw, hacc, hfu, hal⟩ := hrel
   have hsz : W1.heap.size < wr.heap.size := (Array.getElem?_eq_some_iff.1 hit).1
   have hsw : w.heap.size ≤ W1.heap.size := bw1.size
   have hne : W1.heap.size ≠ w.heap.size := by
    intro e1
    rcases I1 with ⟨_, v, hb, _⟩ | ⟨_, v, hb, _⟩
    all_goals (have := (Array.getElem?_eq_some_iff.1 hb).1; omega)
   by_cases hp : pos < a0.size
   ·have hnx : ∀ ty, (Instr.next (.pointer (some ⟨W1.heap.size, 0, none⟩)) true ty).run Tryz.prog wr = _ := fun ty => Lib.run_next_any_at wr W1.heap.size a0 pos ty hit hp
    have hwd := Lib.width_pos a0 pos
    have hd1 := decode_le a0 pos
    have hI2 := hI.iterAt hit (pos + (Utf8.decode a0 pos).2)
    have hit2 := Lib.iterAt_heap wr W1.heap.size a0 pos (pos + (Utf8.decode a0 pos).2) hit
    have hbw2 := Lib.below_iterAt hbw (k := W1.heap.size) hsw a0 (pos + (Utf8.decode a0 pos).2)
    have hsz2 : w.heap.size ≤ (wr.iterAt W1.heap.size a0 (pos + (Utf8.decode a0 pos).2)).heap.size := by rw [Lib.iterAt_size]; omega
    obtain ⟨f, rfl⟩ : ∃ f, fuel = f + 1 := ⟨fuel - 1, by omega⟩
    have hq : quotedFrom a0 (f + 1) pos = (escB (Utf8.decode a0 pos).1).data.toList ++ quotedFrom a0 f (pos + (Utf8.decode a0 pos).2) := by rw [quotedFrom, if_pos hp]
    have hle := escB_le ((Utf8.decode a0 pos).1 : Int)
    have cE := fun W hW => value_escape.calls ((Utf8.decode a0 pos).1 : Int) (escB (Utf8.decode a0 pos).1) W hW (by unfold value_escape.f; rw [if_pos (by omega)])
    generalize escB ((Utf8.decode a0 pos).1 : Int) = E at hq hle cE
    have Hq := Lib.hid hq
    clear hq
    go_wp2_with fail
    refine (cE _ (hw0 _ hbw2)).mono ?_
    rintro e W2 ⟨rfl, hb2⟩
    have hI3 := builderF_below hI2 hb2
    have hit3 := heap_below hit2 hb2
    have hbw3 : Below w.heap.size w W2 := hbw2.trans (hb2.mono hsz2)
    have hsz3 : w.heap.size ≤ W2.heap.size := Nat.le_trans hsz2 hb2.size
    clear hI2 hbw2 cE hnx
    go_wp2_with fail
    refine (Tryz.Bld_WriteString w.heap.size w.heap.size _ E _ hI3 (by rw [Lib.byteCells_length]; omega) hsz3).mono ?_
    rintro e W3 ⟨rfl, h1, b1, k1⟩
    have hit4 := k1.iter hit3 hne
    go_wp2
    go_roundw
    case rel =>
     refine ⟨pos + (Utf8.decode a0 pos).2, f, acc ++ E.data.toList, ?_, hit4, hbw3.trans b1, ?_, by omega, ?_⟩
     ·rw [Lib.byteCells_append, ← strCells_mk]; exact Or.inr h1
     ·rw [← hacc, Hq.out, List.append_assoc]
     ·have : E.data.toList.length = E.size := by rw [Array.length_toList]; rfl
      simp only [List.length_append, this]; omega
    case measure =>
     simp only [World.iterPos, hit4, hit]
     omega
   ·have hnx : ∀ ty, (Instr.next (.pointer (some ⟨W1.heap.size, 0, none⟩)) true ty).run Tryz.prog wr = _ := fun ty => Lib.run_next_end_at wr W1.heap.size a0 pos ty hit hp
    rw [quotedFrom_end a0 fuel pos hp, List.append_nil] at hacc
    have hsz3 : w.heap.size ≤ wr.heap.size := by omega
    have Hacc := Lib.hid hacc
    clear hacc
    go_wp2_with fail
    refine (Tryz.Bld_WriteByte w.heap.size w.heap.size _ 34 _ hI (by rw [Lib.byteCells_length]; omega) hsz3).mono ?_
    rintro e W3 ⟨rfl, h1, b1, k1⟩
    have I3 : Lib.IsBuilderF 162 5 w.heap.size w.heap.size (Lib.byteCells (acc ++ [34])) W3 := by
     rw [Lib.byteCells_append]; exact Or.inr h1
    have hb3 := hbw.trans b1
    clear h1 k1
    go_wp2_with fail
    refine (Tryz.Builder_String_any_k w.heap.size w.heap.size (acc ++ [34]) _ I3 (Nat.le_trans hsz3 b1.size)).mono ?_
    rintro e W4 ⟨rfl, _, b4, _⟩
    go_wp2
    go_ret
    rw [Hacc.out]
    exact ⟨rfl, hb3.trans b4⟩
 ·cases h
/-! ### strconv_FormatBool_226: function 226 -/
def strconv_FormatBool_226.f (a0 : Bool) : Option (ByteArray) := if a0 = true then (some (⟨#[116, 114, 117, 101]⟩ : ByteArray)) else (some (⟨#[102, 97, 108, 115, 101]⟩ : ByteArray))
set_option maxHeartbeats 8000000 in
set_option maxRecDepth 100000 in
theorem strconv_FormatBool_226.calls (a0 : Bool) (r : ByteArray) (w : World) (h : strconv_FormatBool_226.f a0 = some r) :
  Calls Tryz.prog 226 #[.bool a0] w fun e w' => e = .returned (.string r) ∧ Drawn0 w w' := by
 unfold strconv_FormatBool_226.f at h
 have H := h
 clear h
 revert H; refine itR ?L1p ?L1n
 case' L1p =>
  intro c2 H
  subst c2
  obtain rfl := Option.some.inj H
 case' L1n =>
  intro c2 H
  replace c2 := Bool.eq_false_iff.mpr c2
  subst c2
  obtain rfl := Option.some.inj H
 all_goals
  case _ =>
   go_enter Tryz.func226, Tryz.ntmps226
   go_wp2
   go_ret
   exact ⟨endS, drA⟩
/-! ### strconv_FormatBool_179: function 179 -/
def strconv_FormatBool_179.f (a0 : Bool) : Option (ByteArray) := (strconv_FormatBool_226.f a0).bind fun t162 => (some t162)
set_option maxHeartbeats 8000000 in
set_option maxRecDepth 100000 in
theorem strconv_FormatBool_179.calls (a0 : Bool) (r : ByteArray) (w : World) (h : strconv_FormatBool_179.f a0 = some r) :
  Calls Tryz.prog 179 #[.bool a0] w fun e w' => e = .returned (.string r) ∧ Drawn0 w w' := by
 unfold strconv_FormatBool_179.f at h
 have H := h
 clear h
 replace H := Option.bind_eq_some_iff.mp H
 obtain ⟨t162, A20, H⟩ := H
 replace H : (some t162) = some r := H
 have A2 := Aside0.mk A20
 clear A20
 obtain rfl := Option.some.inj H
 go_enter Tryz.func179, Tryz.ntmps179
 go_wp2_with (first | ((with_reducible refine gate_callee (f := 226) rfl ?_); refine goesA (some 4) Tryz.func226 #[.bool a0] ?_; (with_reducible refine (strconv_FormatBool_226.calls a0 t162 _ A2.out).mono ?_); rintro e w' ⟨rfl, ⟨nd, rfl⟩⟩; refine ⟨_, rfl, ?_⟩))
 go_ret
 exact ⟨endS, drA⟩

end Go.Proofs.YtkdndabpaajkaaaGreatDoor.A
