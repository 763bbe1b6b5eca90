-- By drv.py, the session's own driver round the kit's print: the machine's side of the laws, function by function. Not trusted: Lean checks it.
import Derived.Test.YtplemgmfnghoeaaGreatDoorAx0
import Derived.Test.YtplemgmfnghoeaaGreatDoorAx8
import Derived.Test.YtplemgmfnghoeaaGreatDoorAx11
namespace Go.Proofs.YtplemgmfnghoeaaGreatDoor.A
open Go.RowKit Go.Proofs.YtplemgmfnghoeaaGreatDoorW.PrintWords Go.Proofs.YtplemgmfnghoeaaGreatDoorW.PrintLast Go.Proofs.YtplemgmfnghoeaaGreatDoorW.PrintMore
attribute [local go_sem] max2_int min2_int max_two min_two max_three min_three max_four min_four   -- for this text's walks alone
set_option linter.unusedVariables false
set_option linter.unusedSimpArgs false

/-! ### value_quoted: function 75, by hand -/
def quotedFrom (s : ByteArray) : Nat → Nat → List UInt8
 | 0, _ => []
 | f + 1, pos => if pos < s.size then (escB (Utf8.decode s pos).1).data.toList ++ quotedFrom s f (pos + (Utf8.decode s pos).2) else []
theorem quotedFrom_end (s : ByteArray) (fuel pos : Nat) (h : ¬ pos < s.size) : quotedFrom s fuel pos = [] := by
 cases fuel with
 | zero => rfl
 | succ f => simp [quotedFrom, h]
theorem escB_le (c : Int) : (escB c).size ≤ 6 := by
 have h4 := encode_le4 c
 have h2 := hexStr_size c
 unfold escB
 repeat' split
 all_goals first | (simp only [ByteArray.size_append]; show 1 + _ ≤ 6; omega) | (simp only [ByteArray.size_append]; show 3 + _ + 1 ≤ 6; omega) | (show (2 : Nat) ≤ 6; omega) | omega
def value_quoted.f (a0 : ByteArray) : Option ByteArray := if a0.size ≤ 1099511627776 then some ⟨(34 :: (quotedFrom a0 a0.size 0 ++ [34])).toArray⟩ else none
set_option maxHeartbeats 4000000 in
set_option maxRecDepth 100000 in
theorem value_quoted.calls (a0 : ByteArray) (r : ByteArray) (w : World) (hT : Tabs w) (h : value_quoted.f a0 = some r) :
  Calls Tryz.prog 75 #[.string a0] w fun e w' => e = .returned (.string r) ∧ Below w.heap.size w w' := by
 unfold value_quoted.f at h
 split at h
 ·rename_i hs
  obtain rfl := Option.some.inj h
  clear h
  have hw0 : ∀ W : World, Below w.heap.size w W → Tabs W := fun W hb => hT.below hb
  go_enter Tryz.func75, Tryz.ntmps75
  go_wp2_with fail
  refine (Tryz.Bld_WriteByte w.heap.size w.heap.size [] 34 _ (Lib.IsBuilderF.of (Lib.fresh_isBuilder 75 5 w)) (by simp) (by simp)).mono ?_
  rintro e W1 ⟨rfl, h1, b1, k1⟩
  have bw1 : Below w.heap.size w W1 := ((Below.refl _ w).alloc (Nat.le_refl _) _).trans b1
  have I1 : Lib.IsBuilderF 75 5 w.heap.size w.heap.size (Lib.byteCells [34]) W1 := Or.inr h1
  clear h1 b1 k1
  go_wp2_with fail
  go_loopw [] (fun wr => ∃ (pos fuel : Nat) (acc : List UInt8), Lib.IsBuilderF 75 5 w.heap.size w.heap.size (Lib.byteCells acc) wr ∧ wr.heap[W1.heap.size]? = some (.stringIter a0 pos) ∧ Below w.heap.size w wr ∧ acc ++ quotedFrom a0 fuel pos = 34 :: quotedFrom a0 a0.size 0 ∧ a0.size ≤ pos + fuel ∧ acc.length + 6 * fuel ≤ 1 + 6 * a0.size) (fun wr => a0.size - wr.iterPos W1.heap.size)
  case atStart =>
   refine ⟨0, a0.size, [34], I1.alloc _, World.iter_heap W1 a0 0, bw1.alloc bw1.size _, rfl, by omega, by simp⟩
  case round =>
   obtain ⟨pos, fuel, acc, hI, hit, hbw, hacc, hfu, hal⟩ := hrel
   have hsz : W1.heap.size < wr.heap.size := (Array.getElem?_eq_some_iff.1 hit).1
   have hsw : w.heap.size ≤ W1.heap.size := bw1.size
   have hne : W1.heap.size ≠ w.heap.size := by
    intro e1
    rcases I1 with ⟨_, v, hb, _⟩ | ⟨_, v, hb, _⟩
    all_goals (have := (Array.getElem?_eq_some_iff.1 hb).1; omega)
   by_cases hp : pos < a0.size
   ·have hnx : ∀ ty, (Instr.next (.pointer (some ⟨W1.heap.size, 0, none⟩)) true ty).run Tryz.prog wr = _ := fun ty => Lib.run_next_any_at wr W1.heap.size a0 pos ty hit hp
    have hwd := Lib.width_pos a0 pos
    have hd1 := decode_le a0 pos
    have hI2 := hI.iterAt hit (pos + (Utf8.decode a0 pos).2)
    have hit2 := Lib.iterAt_heap wr W1.heap.size a0 pos (pos + (Utf8.decode a0 pos).2) hit
    have hbw2 := Lib.below_iterAt hbw (k := W1.heap.size) hsw a0 (pos + (Utf8.decode a0 pos).2)
    have hsz2 : w.heap.size ≤ (wr.iterAt W1.heap.size a0 (pos + (Utf8.decode a0 pos).2)).heap.size := by rw [Lib.iterAt_size]; omega
    obtain ⟨f, rfl⟩ : ∃ f, fuel = f + 1 := ⟨fuel - 1, by omega⟩
    have hq : quotedFrom a0 (f + 1) pos = (escB (Utf8.decode a0 pos).1).data.toList ++ quotedFrom a0 f (pos + (Utf8.decode a0 pos).2) := by rw [quotedFrom, if_pos hp]
    have hle := escB_le ((Utf8.decode a0 pos).1 : Int)
    have cE := fun W hW => value_escape.calls ((Utf8.decode a0 pos).1 : Int) (escB (Utf8.decode a0 pos).1) W hW (by unfold value_escape.f; rw [if_pos (by omega)])
    generalize escB ((Utf8.decode a0 pos).1 : Int) = E at hq hle cE
    have Hq := Lib.hid hq
    clear hq
    go_wp2_with fail
    refine (cE _ (hw0 _ hbw2)).mono ?_
    rintro e W2 ⟨rfl, hb2⟩
    have hI3 := builderF_below hI2 hb2
    have hit3 := heap_below hit2 hb2
    have hbw3 : Below w.heap.size w W2 := hbw2.trans (hb2.mono hsz2)
    have hsz3 : w.heap.size ≤ W2.heap.size := Nat.le_trans hsz2 hb2.size
    clear hI2 hbw2 cE hnx
    go_wp2_with fail
    refine (Tryz.Bld_WriteString w.heap.size w.heap.size _ E _ hI3 (by rw [Lib.byteCells_length]; omega) hsz3).mono ?_
    rintro e W3 ⟨rfl, h1, b1, k1⟩
    have hit4 := k1.iter hit3 hne
    go_wp2
    go_roundw
    case rel =>
     refine ⟨pos + (Utf8.decode a0 pos).2, f, acc ++ E.data.toList, ?_, hit4, hbw3.trans b1, ?_, by omega, ?_⟩
     ·rw [Lib.byteCells_append, ← strCells_mk]; exact Or.inr h1
     ·rw [← hacc, Hq.out, List.append_assoc]
     ·have : E.data.toList.length = E.size := by rw [Array.length_toList]; rfl
      simp only [List.length_append, this]; omega
    case measure =>
     simp only [World.iterPos, hit4, hit]
     omega
   ·have hnx : ∀ ty, (Instr.next (.pointer (some ⟨W1.heap.size, 0, none⟩)) true ty).run Tryz.prog wr = _ := fun ty => Lib.run_next_end_at wr W1.heap.size a0 pos ty hit hp
    rw [quotedFrom_end a0 fuel pos hp, List.append_nil] at hacc
    have hsz3 : w.heap.size ≤ wr.heap.size := by omega
    have Hacc := Lib.hid hacc
    clear hacc
    go_wp2_with fail
    refine (Tryz.Bld_WriteByte w.heap.size w.heap.size _ 34 _ hI (by rw [Lib.byteCells_length]; omega) hsz3).mono ?_
    rintro e W3 ⟨rfl, h1, b1, k1⟩
    have I3 : Lib.IsBuilderF 75 5 w.heap.size w.heap.size (Lib.byteCells (acc ++ [34])) W3 := by
     rw [Lib.byteCells_append]; exact Or.inr h1
    have hb3 := hbw.trans b1
    clear h1 k1
    go_wp2_with fail
    refine (Tryz.Builder_String_any_k w.heap.size w.heap.size (acc ++ [34]) _ I3 (Nat.le_trans hsz3 b1.size)).mono ?_
    rintro e W4 ⟨rfl, _, b4, _⟩
    go_wp2
    go_ret
    rw [Hacc.out]
    exact ⟨rfl, hb3.trans b4⟩
 ·cases h

/-! ### strconv_FormatBool_109: function 109 -/
def strconv_FormatBool_109.f (a0 : Bool) : Option (ByteArray) := if a0 = true then (some (⟨#[116, 114, 117, 101]⟩ : ByteArray)) else (some (⟨#[102, 97, 108, 115, 101]⟩ : ByteArray))
set_option maxHeartbeats 8000000 in
set_option maxRecDepth 100000 in
theorem strconv_FormatBool_109.calls (a0 : Bool) (r : ByteArray) (w : World) (h : strconv_FormatBool_109.f a0 = some r) :
  Calls Tryz.prog 109 #[.bool a0] w fun e w' => e = .returned (.string r) ∧ Drawn0 w w' := by
 have H : (if a0 = true then (some (⟨#[116, 114, 117, 101]⟩ : ByteArray)) else (some (⟨#[102, 97, 108, 115, 101]⟩ : ByteArray))) = some r := h
 clear h
 by_cases c2 : a0 = true
 ·subst c2
  have H1 : (some (⟨#[116, 114, 117, 101]⟩ : ByteArray)) = some r := by rw [if_pos rfl] at H; exact H
  clear H
  have H := H1
  clear H1
  obtain rfl := Option.some.inj H
  go_enter Tryz.func109, Tryz.ntmps109
  go_wp2
  go_ret
  exact ⟨endS, drA⟩
 ·replace c2 := Bool.eq_false_iff.mpr c2
  subst c2
  have H1 : (some (⟨#[102, 97, 108, 115, 101]⟩ : ByteArray)) = some r := by rw [if_neg (show ¬ (false = true) by decide)] at H; exact H
  clear H
  have H := H1
  clear H1
  obtain rfl := Option.some.inj H
  go_enter Tryz.func109, Tryz.ntmps109
  go_wp2
  go_ret
  exact ⟨endS, drA⟩

/-! ### strconv_FormatBool_76: function 76 -/
def strconv_FormatBool_76.f (a0 : Bool) : Option (ByteArray) := (strconv_FormatBool_109.f a0).bind fun t172 => (some t172)
set_option maxHeartbeats 8000000 in
set_option maxRecDepth 100000 in
theorem strconv_FormatBool_76.calls (a0 : Bool) (r : ByteArray) (w : World) (h : strconv_FormatBool_76.f a0 = some r) :
  Calls Tryz.prog 76 #[.bool a0] w fun e w' => e = .returned (.string r) ∧ Drawn0 w w' := by
 have H : ((strconv_FormatBool_109.f a0).bind fun t172 => (some t172)) = some r := h
 clear h
 replace H := Option.bind_eq_some_iff.mp H
 obtain ⟨t172, A20, H⟩ := H
 replace H : (some t172) = some r := H
 have A2 := Aside0.mk A20
 clear A20
 obtain rfl := Option.some.inj H
 go_enter Tryz.func76, Tryz.ntmps76
 go_wp2_with (first | ((with_reducible refine gate_callee (f := 109) rfl ?_); refine goesA (some 4) Tryz.func109 #[.bool a0] ?_; (with_reducible refine (strconv_FormatBool_109.calls a0 t172 _ A2.out).mono ?_); rintro e w' ⟨rfl, ⟨nd, rfl⟩⟩; refine ⟨_, rfl, ?_⟩))
 go_ret
 exact ⟨endS, drA⟩

/-! ### value_hexed: function 77 -/
def value_hexed.l0 : Nat → ByteArray → List Int → Int → Int → Option (ByteArray)
 | 0, _, _, _, _ => none
 | k + 1, x0, x3, x8, x9 => if x9 < x8 then (if 0 ≤ x9 then (if x9 < (x0.size : Int) then (if 0 ≤ ((bt x0 x9) / 16) then (if ((bt x0 x9) / 16) < 16 then (if 0 ≤ (Go.bits .and .u8 (bt x0 x9) 15) then (if (Go.bits .and .u8 (bt x0 x9) 15) < 16 then ((some (([bt (⟨#[48, 49, 50, 51, 52, 53, 54, 55, 56, 57, 97, 98, 99, 100, 101, 102]⟩ : ByteArray) ((bt x0 x9) / 16), bt (⟨#[48, 49, 50, 51, 52, 53, 54, 55, 56, 57, 97, 98, 99, 100, 101, 102]⟩ : ByteArray) (Go.bits .and .u8 (bt x0 x9) 15)] : List Int) : List Int)).bind fun y176 => (if x3.length + y176.length < 140737488355328 then (value_hexed.l0 k x0 (x3 ++ y176) x8 (wrap64 (x9 + 1))) else (none))) else (none)) else (none)) else (none)) else (none)) else (none)) else (none)) else (if x3.length < 140737488355328 then (some (strOfNums (x3 ++ [39]))) else (none))
def value_hexed.f (k : Nat) (a0 : ByteArray) : Option (ByteArray) := value_hexed.l0 k a0 (([120, 39] : List Int)) (a0.size : Int) 0
theorem value_hexed.mono_l : ∀ k, (∀ y0 y1 y2 y3, LeO (value_hexed.l0 k y0 y1 y2 y3) (value_hexed.l0 (k + 1) y0 y1 y2 y3))
 | 0 => fun _ _ _ _ r h => by simp [value_hexed.l0] at h
 | k + 1 => by
  have ih0 := value_hexed.mono_l k
  ·intro y0 y1 y2 y3
   unfold value_hexed.l0
   repeat' first
   | (with_reducible exact ih0 _ _ _ _)
   | (with_reducible exact LeO.refl _)
   | (with_reducible exact LeO.none _)
   | (with_reducible refine LeO.ite ?_ ?_)
   | (with_reducible refine LeO.bind ?_ (fun _ => ?_))
   | exact ih0 _ _ _ _
   | exact LeO.none _
   | refine LeO.ite ?_ ?_
   | refine LeO.bind ?_ (fun _ => ?_)
theorem value_hexed.mono : ∀ a0 k, LeO (value_hexed.f k a0) (value_hexed.f (k + 1) a0) := by
 intro a0 k
 have ih0 := value_hexed.mono_l k
 unfold value_hexed.f
 repeat' first
   | (with_reducible exact ih0 _ _ _ _)
   | (with_reducible exact LeO.refl _)
   | (with_reducible exact LeO.none _)
   | (with_reducible refine LeO.ite ?_ ?_)
   | (with_reducible refine LeO.bind ?_ (fun _ => ?_))
   | exact ih0 _ _ _ _
   | exact LeO.none _
   | refine LeO.ite ?_ ?_
   | refine LeO.bind ?_ (fun _ => ?_)
def value_hexed.T5 : Bool × List (List Nat × List Nat) := (true, [([], []), ([], []), ([], []), ([1, 2], [1, 2]), ([3], [3]), ([4], [4]), ([], []), ([], []), ([6, 7], [6, 7]), ([8], [8]), ([9], [9]), ([5, 10], [5, 10]), ([0, 11], [0, 11]), ([12, 12, 0, 1, 2, 3, 4, 5, 6, 7, 8, 9, 10, 11, 12], [0, 12])])
def value_hexed.B5 : List Nat := [0, 0, 0, 6, 14, 30, 0, 0, 192, 448, 960, 2046, 4095, 8191]
theorem value_hexed.tab5 : rtab .any (opsOf Tryz.f77 5) = value_hexed.T5 := by kernel_rfl
theorem value_hexed.bits5 : waitsOk value_hexed.T5.2 value_hexed.B5 = true := by kernel_rfl
set_option maxHeartbeats 8000000 in
set_option maxRecDepth 100000 in
theorem value_hexed.calls (k : Nat) (a0 : ByteArray) (r : ByteArray) (w : World) (h : value_hexed.f k a0 = some r) :
  Calls Tryz.prog 77 #[.string a0] w fun e w' => e = .returned (.string r) ∧ Below w.heap.size w w' := by
 have HB := Aside0.mk (Below.refl w.heap.size w)
 have H : (value_hexed.l0 k a0 (([120, 39] : List Int)) (a0.size : Int) 0) = some r := h
 clear h
 obtain ⟨y173, hy173⟩ : ∃ y_ : List Int, y_ = (([120, 39] : List Int)) := ⟨_, rfl⟩
 replace H : (value_hexed.l0 k a0 y173 (a0.size : Int) 0) = some r := by first | (rw [hy173]; with_reducible exact H) | (have H2_ := (Option.bind_some _ _).symm.trans H; rw [hy173]; with_reducible exact H2_) | (have H2_ := (Option.bind_some _ _).symm.trans H; with_reducible exact H2_) | with_reducible exact H | (rw [hy173]; exact H) | exact H
 have Ny173 := Aside0.mk hy173
 clear hy173
 have H' := Aside0.mk H
 clear H
 go_enter Tryz.func77, Tryz.ntmps77
 have kc := fun (W : World) (C : Array Value) (n c : Nat) => Lib.run_convert_bytes_const (P := Tryz.prog) W 73 5 C n c Tryz.underlying73 Tryz.underlying5
 go_wp2
 go_loopg [3, 9] k (fun kq v3 v9 w' => ∃ (x3_1 : List Int) (x9_1 : Int), v9 = .int .i64 x9_1 ∧ Aside0 (value_hexed.l0 kq a0 x3_1 (a0.size : Int) x9_1 = some r) ∧ Aside0 (kq ≤ k) ∧ Aside0 (HxR w' w.heap.size (fun _ => True) v3 x3_1) ∧ Aside0 (Below w.heap.size w w'))
 case atStart => exact ⟨[120, 39], (0), (endS), (by have h_ := H'; rw [Ny173.out] at h_; exact h_), ⟨Nat.le_refl _⟩, ⟨.inr ⟨w.heap.size, rfl, Nat.le_refl _, by simp, trivial, fun j u hj => (Lib.cell_of_heap (heap_alloc_new w _) j).trans (by rw [← hj]; rcases j with _ | _ | j <;> rfl)⟩⟩, ⟨(below_alloc (Below.refl _ _) _)⟩⟩
 case round =>
  clear H'
  try clear p2
  obtain ⟨x3_1, x9_1, rfl, HA, HK1, HO_3, HB⟩ := hrel
  cases gk with
  | zero => exact absurd HA.out (by simp [value_hexed.l0])
  | succ k1 =>
   have H := HA.out
   clear HA
   simp only [value_hexed.l0] at H
   by_cases c4 : x9_1 < (a0.size : Int)
   ·rw [if_pos c4] at H
    have c4b0 : decide (x9_1 < (a0.size : Int)) = true := decide_eq_true c4
    clear c4
    by_cases c5 : 0 ≤ x9_1
    ·rw [if_pos c5] at H
     have c5b0 : decide (0 ≤ x9_1) = true := decide_eq_true c5
     clear c5
     by_cases c6 : x9_1 < (a0.size : Int)
     ·rw [if_pos c6] at H
      have c6b0 : decide (x9_1 < (a0.size : Int)) = true := decide_eq_true c6
      clear c6
      obtain ⟨ji8, hji8⟩ : ∃ j_ : Int, ((bt a0 x9_1) / 16) = j_ := ⟨_, rfl⟩
      replace H : (if 0 ≤ (ji8) then (if (ji8) < 16 then (if 0 ≤ (Go.bits .and .u8 (bt a0 x9_1) 15) then (if (Go.bits .and .u8 (bt a0 x9_1) 15) < 16 then ((some (([bt (⟨#[48, 49, 50, 51, 52, 53, 54, 55, 56, 57, 97, 98, 99, 100, 101, 102]⟩ : ByteArray) (ji8), bt (⟨#[48, 49, 50, 51, 52, 53, 54, 55, 56, 57, 97, 98, 99, 100, 101, 102]⟩ : ByteArray) (Go.bits .and .u8 (bt a0 x9_1) 15)] : List Int) : List Int)).bind fun y176 => (if x3_1.length + y176.length < 140737488355328 then (value_hexed.l0 k1 a0 (x3_1 ++ y176) (a0.size : Int) (wrap64 (x9_1 + 1))) else (none))) else (none)) else (none)) else (none)) else (none)) = some r := by first | (rw [hji8] at H; exact H) | (simp only [hji8] at H ⊢; exact H)
      by_cases c9 : 0 ≤ (ji8)
      ·rw [if_pos c9] at H
       have c9b0 : decide (0 ≤ (ji8)) = true := decide_eq_true c9
       clear c9
       by_cases c10 : (ji8) < 16
       ·rw [if_pos c10] at H
        have c10b0 : decide ((ji8) < 16) = true := decide_eq_true c10
        clear c10
        by_cases c13 : 0 ≤ (Go.bits .and .u8 (bt a0 x9_1) 15)
        ·rw [if_pos c13] at H
         have c13b0 : decide (0 ≤ (Go.bits .and .u8 (bt a0 x9_1) 15)) = true := decide_eq_true c13
         clear c13
         by_cases c14 : (Go.bits .and .u8 (bt a0 x9_1) 15) < 16
         ·rw [if_pos c14] at H
          have c14b0 : decide ((Go.bits .and .u8 (bt a0 x9_1) 15) < 16) = true := decide_eq_true c14
          clear c14
          obtain ⟨y176, hy176⟩ : ∃ y_ : List Int, y_ = (([bt (⟨#[48, 49, 50, 51, 52, 53, 54, 55, 56, 57, 97, 98, 99, 100, 101, 102]⟩ : ByteArray) (ji8), bt (⟨#[48, 49, 50, 51, 52, 53, 54, 55, 56, 57, 97, 98, 99, 100, 101, 102]⟩ : ByteArray) (Go.bits .and .u8 (bt a0 x9_1) 15)] : List Int)) := ⟨_, rfl⟩
          replace H : (if x3_1.length + y176.length < 140737488355328 then (value_hexed.l0 k1 a0 (x3_1 ++ y176) (a0.size : Int) (wrap64 (x9_1 + 1))) else (none)) = some r := by first | (rw [hy176]; with_reducible exact H) | (have H2_ := (Option.bind_some _ _).symm.trans H; rw [hy176]; with_reducible exact H2_) | (have H2_ := (Option.bind_some _ _).symm.trans H; with_reducible exact H2_) | with_reducible exact H | (rw [hy176]; exact H) | exact H
          have Ny176 := Aside0.mk hy176
          clear hy176
          by_cases c16 : x3_1.length + y176.length < 140737488355328
          ·rw [if_pos c16] at H
           have LMc16 := Aside0.mk c16
           clear c16
           obtain ⟨y179, hy179⟩ : ∃ y_ : List Int, y_ = (x3_1 ++ y176) := ⟨_, rfl⟩
           replace H : (value_hexed.l0 k1 a0 y179 (a0.size : Int) (wrap64 (x9_1 + 1))) = some r := by first | (rw [hy179]; with_reducible exact H) | (have H2_ := (Option.bind_some _ _).symm.trans H; rw [hy179]; with_reducible exact H2_) | (have H2_ := (Option.bind_some _ _).symm.trans H; with_reducible exact H2_) | with_reducible exact H | (rw [hy179]; exact H) | exact H
           have Ny179 := Aside0.mk hy179
           clear hy179
           have H' := Aside0.mk H
           clear H
           try go_wp2
           have n0_ := Aside0.mk (HxR.drew HO_3.out)
           have n1_ := Aside0.mk (below_drew1 HB.out)
           clear HO_3
           clear HB
           have HO_3 := n0_
           have HB := n1_
           clear n0_ n1_
           have p7 : 0 ≤ (x9_1 : Int) := odA
           have q7 : x9_1 < (a0.size : Int) := odA
           have hx7 := bt_at a0 x9_1
           replace p7 := eq_true p7
           replace q7 := eq_true q7
           have p11 : 0 ≤ ((ji8) : Int) := odA
           have q11 : (ji8) < (16 : Int) := odA
           have hx11 := bt_at (⟨#[48, 49, 50, 51, 52, 53, 54, 55, 56, 57, 97, 98, 99, 100, 101, 102]⟩ : ByteArray) (ji8)
           replace p11 := eq_true p11
           replace q11 := eq_true q11
           have p12 : 0 ≤ (x9_1 : Int) := odA
           have q12 : x9_1 < (a0.size : Int) := odA
           have hx12 := bt_at a0 x9_1
           replace p12 := eq_true p12
           replace q12 := eq_true q12
           have p15 : 0 ≤ ((Go.bits .and .u8 (bt a0 x9_1) 15) : Int) := odA
           have q15 : (Go.bits .and .u8 (bt a0 x9_1) 15) < (16 : Int) := odA
           have hx15 := bt_at (⟨#[48, 49, 50, 51, 52, 53, 54, 55, 56, 57, 97, 98, 99, 100, 101, 102]⟩ : ByteArray) (Go.bits .and .u8 (bt a0 x9_1) 15)
           replace p15 := eq_true p15
           replace q15 := eq_true q15
           refine start_ (n := 14) (S := fun w' => True) (ds := []) (mkB 14 0) (by kernel_rfl) rfl rfl trivial (fun hHeld => ?_); refine with_tabW value_hexed.tab5 value_hexed.bits5 (fun HT_ HW_ => ?_)
           generalize wr.drew = w17 at HO_3 HB hHeld ⊢
           refine pureA 0 (some 12) (mkB 14 1) ?_
           refine pureA 1 (some 13) (mkB 14 3) ?_
           refine pureA 2 (some 14) (mkB 14 7) ?_
           refine pureA 6 (some 18) (mkB 14 71) ?_
           refine pureA 7 (some 19) (mkB 14 199) ?_
           refine take_ (i := 3) (N := some 15) (v := ?_) (a' := ?_) #[true, true, true, true, false, false, true, true, false, false, false, false, false, false] rfl rfl (take_ofW HT_.out HW_.out (by kernel_rfl)) (fun _ _ _ h => h) (Or.inl ⟨by rfl, ?_⟩) hHeld ?_ ?_
           rotate_left
           ·intro w' _
            go_simp
            with_reducible rfl
           rotate_left
           ·simp only [Act.put, List.setIfInBounds_toArray, List.set_cons_zero, List.set_cons_succ, i64_w, i32_w]
            rfl
           refine pureA 4 (some 16) (mkB 14 223) ?_
           refine take_ (i := 5) (N := some 17) (v := ?_) (a' := ?_) #[true, true, true, true, true, true, true, true, false, false, false, false, false, false] rfl rfl (take_ofW HT_.out HW_.out (by kernel_rfl)) (fun _ _ _ h => h) (Or.inl ⟨by rfl, ?_⟩) hHeld ?_ ?_
           rotate_left
           ·intro w' _
            go_simp
            with_reducible rfl
           rotate_left
           ·simp only [Act.put, List.setIfInBounds_toArray, List.set_cons_zero, List.set_cons_succ, i64_w, i32_w]
            rfl
           refine take_ (i := 8) (N := some 20) (v := ?_) (a' := ?_) #[true, true, true, true, true, true, true, true, true, false, false, false, false, false] rfl rfl (take_ofW HT_.out HW_.out (by kernel_rfl)) (fun _ _ _ h => h) (Or.inl ⟨by rfl, ?_⟩) hHeld ?_ ?_
           rotate_left
           ·intro w' _
            go_simp
            with_reducible rfl
           rotate_left
           ·simp only [Act.put, List.setIfInBounds_toArray, List.set_cons_zero, List.set_cons_succ, i64_w, i32_w]
            rfl
           refine pureA 9 (some 21) (mkB 14 1023) ?_
           refine take_ (i := 10) (N := some 22) (v := ?_) (a' := ?_) #[true, true, true, true, true, true, true, true, true, true, true, false, false, false] rfl rfl (take_ofW HT_.out HW_.out (by kernel_rfl)) (fun _ _ _ h => h) (Or.inl ⟨by rfl, ?_⟩) hHeld ?_ ?_
           rotate_left
           ·intro w' _
            go_simp
            with_reducible rfl
           rotate_left
           ·simp only [Act.put, List.setIfInBounds_toArray, List.set_cons_zero, List.set_cons_succ, i64_w, i32_w]
            rfl
           refine oneA 11 (some 23) (mkB 14 4095) (fun K hK => ?_)
           refine Kd.R_lit_step (Kd.int .u8) _ 5 ?hg (N := 23) ?hd (xs := ([bt (⟨#[48, 49, 50, 51, 52, 53, 54, 55, 56, 57, 97, 98, 99, 100, 101, 102]⟩ : ByteArray) (ji8), bt (⟨#[48, 49, 50, 51, 52, 53, 54, 55, 56, 57, 97, 98, 99, 100, 101, 102]⟩ : ByteArray) (Go.bits .and .u8 (bt a0 x9_1) 15)] : List Int)) (inner := [.int .u8 (bt (⟨#[48, 49, 50, 51, 52, 53, 54, 55, 56, 57, 97, 98, 99, 100, 101, 102]⟩ : ByteArray) (ji8)), .int .u8 (bt (⟨#[48, 49, 50, 51, 52, 53, 54, 55, 56, 57, 97, 98, 99, 100, 101, 102]⟩ : ByteArray) (Go.bits .and .u8 (bt a0 x9_1) 15))]) (ok := fun _ => True) (okp := fun _ => True) ?hr ?hp (fun _ hk => hk) trivial (Below.refl _ _) (Nat.le_refl _) (by simp) ?_; (case hd => rfl); (case hg => rfl); (case hr => first | (go_simp; done) | (go_simp; rfl)); (case hp => exact (Reps.one (show Kd.M (Kd.int .u8) _ _ _ (bt (⟨#[48, 49, 50, 51, 52, 53, 54, 55, 56, 57, 97, 98, 99, 100, 101, 102]⟩ : ByteArray) (ji8)) [.int .u8 (bt (⟨#[48, 49, 50, 51, 52, 53, 54, 55, 56, 57, 97, 98, 99, 100, 101, 102]⟩ : ByteArray) (ji8))] from rfl) (Reps.one (show Kd.M (Kd.int .u8) _ _ _ (bt (⟨#[48, 49, 50, 51, 52, 53, 54, 55, 56, 57, 97, 98, 99, 100, 101, 102]⟩ : ByteArray) (Go.bits .and .u8 (bt a0 x9_1) 15)) [.int .u8 (bt (⟨#[48, 49, 50, 51, 52, 53, 54, 55, 56, 57, 97, 98, 99, 100, 101, 102]⟩ : ByteArray) (Go.bits .and .u8 (bt a0 x9_1) 15))] from rfl) (Reps.none _ _))))
           intro v177 w18 ho19 hb hg_ hnew_
           clear hg_ hnew_
           (first | rw [← Ny176.out] at ho19 | (simp only [Int.reduceToNat] at ho19; rw [← Ny176.out] at ho19))
           have n0_ := Aside0.mk (HxR.elder' (by (with_reducible repeat (first | apply HxR.alloc | apply HxR.drewN | apply HxR.drew)); exact HO_3.out) (Kd.R_base ho19) hb)
           have n1_ := Aside0.mk (Kd.R_lower (Kd.R_new' ho19 (HxR.lt (by (with_reducible repeat (first | apply HxR.alloc | apply HxR.drewN | apply HxR.drew)); exact HO_3.out))) (below_size (bwA)))
           have n2_ := Aside0.mk (below_step (bwA) hb)
           clear HO_3
           clear HB
           have HO_3 := n0_
           have HO178 := n1_
           have HB := n2_
           clear n0_ n1_ n2_
           clear hb ho19
           obtain ⟨Ao21, co21, eo21⟩ := Kd.R_slice HO178.out
           (first | subst eo21 | (injection eo21 with f1_ f2_ f3_; have f4_ := f1_.symm; have f5_ := f3_.symm; clear f1_ f2_ f3_; subst f4_; subst f5_))
           refine hK.out _ _ trivial (fun hHeld => ?_)
           clear hK K
           refine normA ?_
           refine oneA 12 (some 24) (mkB 14 8191) (fun K hK => ?_)
           refine HxR.append_rows_step (w0 := w) w.heap.size (by rfl) (.tmp 12) (.tmp 23) 73 rfl Tryz.underlying73 info5 u3 x3_1 y176 _ _ _ (fun k_ => some k_ ≠ (.slice Ao21 y176.length co21 : Value).ownBlock) rfl rfl ?aO ?aR (by rw [Ny176.out]; exact Nat.zero_lt_succ _) ?aF ?aB ?aS ?aL ?_
           (case aR => repeat (first | exact (Kd.R_reads' HO178.out).2.2 | (with_reducible refine Kd.C_alloc ?_ _) | (with_reducible refine Kd.C_drewN ?_ _) | (with_reducible refine Kd.C_drew ?_)))
           (case aB => exact (bwA))
           (case aF => exact (fun k_ hk => Kd.fresh' (Kd.R_lt (by (with_reducible repeat (first | apply Kd.R_alloc | apply Kd.R_drewN | apply Kd.R_drew)); exact HO178.out)) k_ hk))
           (case aO => exact (by (with_reducible repeat (first | apply HxR.alloc | apply HxR.drewN | apply HxR.drew)); exact HxR.mono HO_3.out (fun _ hk => hk.2)))
           (case aS => exact (below_size (bwA)))
           (case aL => have := LMc16.out; omega)
           intro v180 w20 ho hb hg hat
           rw [← Ny179.out] at ho
           have n0_ := Aside0.mk (Kd.R_after (ok := (fun _ => True)) (by (with_reducible repeat (first | apply Kd.R_alloc | apply Kd.R_drewN | apply Kd.R_drew)); exact HO178.out) hg hat)
           have n1_ := Aside0.mk (hb)
           have n2_ := Aside0.mk (ho)
           clear HO178
           clear HB
           clear HO_3
           have HO178 := n0_
           have HB := n1_
           have HO181 := n2_
           clear n0_ n1_ n2_
           clear ho hb hg hat
           refine hK.out _ _ trivial (fun hHeld => ?_)
           clear hK K
           refine normA ?_
           refine pureA 13 (some 3) (mkB 14 16383) ?_
           refine done_ (done_of HT_.out (by kernel_rfl)) ?_
           try go_wp2
           go_roundg k1
           case measure => have := HK1.out; omega
           case rel => exact ⟨(y179), (wrap64 (x9_1 + 1)), (endS), H', ⟨by have := HK1.out; omega⟩, ⟨.inl (by (with_reducible repeat (first | apply Kd.R_alloc | apply Kd.R_drewN | apply Kd.R_drew)); exact Kd.R_mono HO181.out (fun _ hk => trivial))⟩, ⟨bwA⟩⟩
          ·rw [if_neg c16] at H
           exact absurd H (by simp)
         ·rw [if_neg c14] at H
          exact absurd H (by simp)
        ·rw [if_neg c13] at H
         exact absurd H (by simp)
       ·rw [if_neg c10] at H
        exact absurd H (by simp)
      ·rw [if_neg c9] at H
       exact absurd H (by simp)
     ·rw [if_neg c6] at H
      exact absurd H (by simp)
    ·rw [if_neg c5] at H
     exact absurd H (by simp)
   ·rw [if_neg c4] at H
    have c4b0 : decide (x9_1 < (a0.size : Int)) = false := decide_eq_false c4
    clear c4
    by_cases c22 : x3_1.length < 140737488355328
    ·rw [if_pos c22] at H
     have LMc22 := Aside0.mk c22
     clear c22
     obtain ⟨y182, hy182⟩ : ∃ y_ : List Int, y_ = (x3_1 ++ [39]) := ⟨_, rfl⟩
     replace H : (some (strOfNums y182)) = some r := by first | (rw [hy182]; with_reducible exact H) | (have H2_ := (Option.bind_some _ _).symm.trans H; rw [hy182]; with_reducible exact H2_) | (have H2_ := (Option.bind_some _ _).symm.trans H; with_reducible exact H2_) | with_reducible exact H | (rw [hy182]; exact H) | exact H
     have Ny182 := Aside0.mk hy182
     clear hy182
     obtain rfl := Option.some.inj H
     go_wp2_with (first | ((with_reducible refine gate_builtin (b := .append) (xs := #[.tmp 26, .tmp 27]) rfl ?_); at_builtin; refine HxR.append_list (w0 := w) w.heap.size rfl (.tmp 26) (.tmp 27) 73 rfl Tryz.underlying73 info5 u3 x3_1 39 (fun _ => True) rfl rfl ?aO ?aF ?aB ?aS ?aL ?_; (case aB => exact (bwA)); (case aF => exact (fun _ _ => trivial)); (case aO => exact (by (with_reducible repeat (first | apply HxR.alloc | apply HxR.drewN | apply HxR.drew)); exact HO_3.out)); (case aS => exact (below_size (bwA))); (case aL => have := LMc22.out; omega); intro v183 w23 ho hb; rw [← Ny182.out] at ho; have n0_ := Aside0.mk (hb); have n1_ := Aside0.mk (ho); clear HB; clear HO_3; have HB := n0_; have HO184 := n1_; clear n0_ n1_; clear ho hb; have hcv24 := own_string (P := Tryz.prog) Tryz.underlying73 Tryz.underlying5 Tryz.underlying9 (Kd.own_of_R HO184.out)))
     go_ret
     exact ⟨endA, bwA⟩
    ·rw [if_neg c22] at H
     exact absurd H (by simp)

/-! ### value_Show: function 42 -/
def value_Show.f (k : Nat) (a0_0 : Int) (a0_1 : Int) (a0_2 : ByteArray) : Option (ByteArray) := (value_Check.f a0_0 a0_1 a0_2).bind fun t186 => (if t186 = true then (if a0_0 = 1 then ((strconv_Itoa.f a0_1).bind fun t187 => (some t187)) else (if a0_0 = 2 then ((value_quoted.f a0_2).bind fun t188 => (some t188)) else (if a0_0 = 3 then ((strconv_FormatBool_76.f (a0_1 == 1)).bind fun t189 => (some t189)) else ((value_hexed.f k a0_2).bind fun t190 => (some t190))))) else (some (⟨#[]⟩ : ByteArray)))
theorem value_Show.mono : ∀ a0 a1 a2 k, LeO (value_Show.f k a0 a1 a2) (value_Show.f (k + 1) a0 a1 a2) := by
 intro a0 a1 a2 k
 unfold value_Show.f
 repeat' first
   | (with_reducible exact value_hexed.mono _ _)
   | (with_reducible exact LeO.refl _)
   | (with_reducible exact LeO.none _)
   | (with_reducible refine LeO.ite ?_ ?_)
   | (with_reducible refine LeO.bind ?_ (fun _ => ?_))
   | exact value_hexed.mono _ _
   | exact LeO.none _
   | refine LeO.ite ?_ ?_
   | refine LeO.bind ?_ (fun _ => ?_)
set_option maxHeartbeats 8000000 in
set_option maxRecDepth 100000 in
theorem value_Show.calls (k : Nat) (a0_0 : Int) (a0_1 : Int) (a0_2 : ByteArray) (r : ByteArray) (w : World) (hT : Tabs w) (h : value_Show.f k a0_0 a0_1 a0_2 = some r) :
  Calls Tryz.prog 42 #[.agg #[.int .i64 a0_0, .int .i64 a0_1, .string a0_2]] w fun e w' => e = .returned (.string r) ∧ Below w.heap.size w w' := by
 have hu55 := Tryz.underlying55
 have HB := Aside0.mk (Below.refl w.heap.size w)
 have H : ((value_Check.f a0_0 a0_1 a0_2).bind fun t186 => (if t186 = true then (if a0_0 = 1 then ((strconv_Itoa.f a0_1).bind fun t187 => (some t187)) else (if a0_0 = 2 then ((value_quoted.f a0_2).bind fun t188 => (some t188)) else (if a0_0 = 3 then ((strconv_FormatBool_76.f (a0_1 == 1)).bind fun t189 => (some t189)) else ((value_hexed.f k a0_2).bind fun t190 => (some t190))))) else (some (⟨#[]⟩ : ByteArray)))) = some r := h
 clear h
 have HT := Aside0.mk hT
 clear hT
 replace H := Option.bind_eq_some_iff.mp H
 obtain ⟨t186, A20, H⟩ := H
 replace H : (if t186 = true then (if a0_0 = 1 then ((strconv_Itoa.f a0_1).bind fun t187 => (some t187)) else (if a0_0 = 2 then ((value_quoted.f a0_2).bind fun t188 => (some t188)) else (if a0_0 = 3 then ((strconv_FormatBool_76.f (a0_1 == 1)).bind fun t189 => (some t189)) else ((value_hexed.f k a0_2).bind fun t190 => (some t190))))) else (some (⟨#[]⟩ : ByteArray))) = some r := H
 have A2 := Aside0.mk A20
 clear A20
 by_cases c3 : t186 = true
 ·subst c3
  have H1 : (if a0_0 = 1 then ((strconv_Itoa.f a0_1).bind fun t187 => (some t187)) else (if a0_0 = 2 then ((value_quoted.f a0_2).bind fun t188 => (some t188)) else (if a0_0 = 3 then ((strconv_FormatBool_76.f (a0_1 == 1)).bind fun t189 => (some t189)) else ((value_hexed.f k a0_2).bind fun t190 => (some t190))))) = some r := by rw [if_pos rfl] at H; exact H
  clear H
  have H := H1
  clear H1
  by_cases c4 : a0_0 = 1
  ·rw [if_pos c4] at H
   have c4b0 : (a0_0 == 1) = true := beq_iff_eq.mpr c4
   have c4b1 : (a0_0 != 1) = false := bne_eq_false_iff_eq.mpr c4
   clear c4
   replace H := Option.bind_eq_some_iff.mp H
   obtain ⟨t187, A50, H⟩ := H
   replace H : (some t187) = some r := H
   have A5 := Aside0.mk A50
   clear A50
   obtain rfl := Option.some.inj H
   go_enter Tryz.func42, Tryz.ntmps42
   go_wp2_with (first | ((with_reducible refine gate_dst (N := 1) rfl ?_); refine box_event ?hg (N := 1) ?hd (cs := #[.int .i64 a0_0, .int .i64 a0_1, .string a0_2]) (t := 55) ?hr ?_; (case hd => rfl); (case hg => rfl); (case hr => first | (go_simp; done) | (go_simp; rfl)); intro gb185 hg w6 hbox hb; have n0_ := Aside0.mk (below_step (bwA) hb); have n1_ := Aside0.mk (hbox); have n2_ := Aside0.mk ((by rw [hg]; exact (below_size (bwA)) : w.heap.size ≤ gb185)); have n3_ := Aside0.mk ((by rw [hg]; exact (below_size (bwA)) : w.heap.size ≤ gb185)); clear HB; have HB := n0_; have BK185 := n1_; have GW185 := n2_; have GE185 := n3_; clear n0_ n1_ n2_ n3_; clear hb hbox hg; have hcz7_0 : w6.cell? ⟨gb185, 0, none⟩ = some (.int .i64 a0_0) := (blk_cell BK185.out 0).trans rfl; have hcz7_1 : w6.cell? ⟨gb185, 1, none⟩ = some (.int .i64 a0_1) := (blk_cell BK185.out 1).trans rfl; have hcz7_2 : w6.cell? ⟨gb185, 2, none⟩ = some (.string a0_2) := (blk_cell BK185.out 2).trans rfl; have hfz7_0 := blk_frozen BK185.out 0; have hfz7_1 := blk_frozen BK185.out 1; have hfz7_2 := blk_frozen BK185.out 2) | ((with_reducible refine gate_callee (f := 64) rfl ?_); refine goesA (some 4) Tryz.func64 #[.agg #[.int .i64 a0_0, .int .i64 a0_1, .string a0_2]] ?_; (with_reducible refine (value_Check.calls a0_0 a0_1 a0_2 true _ ?side1 A2.out).mono ?_); (case side1 => exact Tabs.below HT.out (bwA)); rintro e w8 ⟨rfl, hb⟩; refine ⟨_, rfl, ?_⟩; have n0_ := Aside0.mk (blk_below (g := gb185) (o := .cells #[.int .i64 a0_0, .int .i64 a0_1, .string a0_2] 55 (0, 0)) blkA hb); have n1_ := Aside0.mk (below_step (bwA) hb); clear BK185; clear HB; have BK185 := n0_; have HB := n1_; clear n0_ n1_; (try clear hb); (try clear hb2); (try clear hk); (try clear hi); have hcz9_0 : w8.cell? ⟨gb185, 0, none⟩ = some (.int .i64 a0_0) := (blk_cell BK185.out 0).trans rfl; have hcz9_1 : w8.cell? ⟨gb185, 1, none⟩ = some (.int .i64 a0_1) := (blk_cell BK185.out 1).trans rfl; have hcz9_2 : w8.cell? ⟨gb185, 2, none⟩ = some (.string a0_2) := (blk_cell BK185.out 2).trans rfl; have hfz9_0 := blk_frozen BK185.out 0; have hfz9_1 := blk_frozen BK185.out 1; have hfz9_2 := blk_frozen BK185.out 2) | ((with_reducible refine gate_callee (f := 49) rfl ?_); refine goesA (some 12) Tryz.func49 #[.int .i64 a0_1] ?_; (with_reducible refine (strconv_Itoa.calls a0_1 t187 _ ?side1 A5.out).mono ?_); (case side1 => exact Tabs.below HT.out (bwA)); rintro e w10 ⟨rfl, hb⟩; refine ⟨_, rfl, ?_⟩; have n0_ := Aside0.mk (blk_below (g := gb185) (o := .cells #[.int .i64 a0_0, .int .i64 a0_1, .string a0_2] 55 (0, 0)) blkA hb); have n1_ := Aside0.mk (below_step (bwA) hb); clear BK185; clear HB; have BK185 := n0_; have HB := n1_; clear n0_ n1_; (try clear hb); (try clear hb2); (try clear hk); (try clear hi)))
   go_ret
   exact ⟨endA, bwA⟩
  ·rw [if_neg c4] at H
   have c4b0 : (a0_0 == 1) = false := beq_eq_false_iff_ne.mpr c4
   have c4b1 : (a0_0 != 1) = true := bne_iff_ne.mpr c4
   by_cases c11 : a0_0 = 2
   ·rw [if_pos c11] at H
    have c11b0 : (a0_0 == 2) = true := beq_iff_eq.mpr c11
    have c11b1 : (a0_0 != 2) = false := bne_eq_false_iff_eq.mpr c11
    clear c11
    replace H := Option.bind_eq_some_iff.mp H
    obtain ⟨t188, A120, H⟩ := H
    replace H : (some t188) = some r := H
    have A12 := Aside0.mk A120
    clear A120
    obtain rfl := Option.some.inj H
    go_enter Tryz.func42, Tryz.ntmps42
    go_wp2_with (first | ((with_reducible refine gate_dst (N := 1) rfl ?_); refine box_event ?hg (N := 1) ?hd (cs := #[.int .i64 a0_0, .int .i64 a0_1, .string a0_2]) (t := 55) ?hr ?_; (case hd => rfl); (case hg => rfl); (case hr => first | (go_simp; done) | (go_simp; rfl)); intro gb185 hg w13 hbox hb; have n0_ := Aside0.mk (below_step (bwA) hb); have n1_ := Aside0.mk (hbox); have n2_ := Aside0.mk ((by rw [hg]; exact (below_size (bwA)) : w.heap.size ≤ gb185)); have n3_ := Aside0.mk ((by rw [hg]; exact (below_size (bwA)) : w.heap.size ≤ gb185)); clear HB; have HB := n0_; have BK185 := n1_; have GW185 := n2_; have GE185 := n3_; clear n0_ n1_ n2_ n3_; clear hb hbox hg; have hcz14_0 : w13.cell? ⟨gb185, 0, none⟩ = some (.int .i64 a0_0) := (blk_cell BK185.out 0).trans rfl; have hcz14_1 : w13.cell? ⟨gb185, 1, none⟩ = some (.int .i64 a0_1) := (blk_cell BK185.out 1).trans rfl; have hcz14_2 : w13.cell? ⟨gb185, 2, none⟩ = some (.string a0_2) := (blk_cell BK185.out 2).trans rfl; have hfz14_0 := blk_frozen BK185.out 0; have hfz14_1 := blk_frozen BK185.out 1; have hfz14_2 := blk_frozen BK185.out 2) | ((with_reducible refine gate_callee (f := 64) rfl ?_); refine goesA (some 4) Tryz.func64 #[.agg #[.int .i64 a0_0, .int .i64 a0_1, .string a0_2]] ?_; (with_reducible refine (value_Check.calls a0_0 a0_1 a0_2 true _ ?side1 A2.out).mono ?_); (case side1 => exact Tabs.below HT.out (bwA)); rintro e w15 ⟨rfl, hb⟩; refine ⟨_, rfl, ?_⟩; have n0_ := Aside0.mk (blk_below (g := gb185) (o := .cells #[.int .i64 a0_0, .int .i64 a0_1, .string a0_2] 55 (0, 0)) blkA hb); have n1_ := Aside0.mk (below_step (bwA) hb); clear BK185; clear HB; have BK185 := n0_; have HB := n1_; clear n0_ n1_; (try clear hb); (try clear hb2); (try clear hk); (try clear hi); have hcz16_0 : w15.cell? ⟨gb185, 0, none⟩ = some (.int .i64 a0_0) := (blk_cell BK185.out 0).trans rfl; have hcz16_1 : w15.cell? ⟨gb185, 1, none⟩ = some (.int .i64 a0_1) := (blk_cell BK185.out 1).trans rfl; have hcz16_2 : w15.cell? ⟨gb185, 2, none⟩ = some (.string a0_2) := (blk_cell BK185.out 2).trans rfl; have hfz16_0 := blk_frozen BK185.out 0; have hfz16_1 := blk_frozen BK185.out 1; have hfz16_2 := blk_frozen BK185.out 2) | ((with_reducible refine gate_callee (f := 75) rfl ?_); refine goesA (some 17) Tryz.func75 #[.string a0_2] ?_; (with_reducible refine (value_quoted.calls a0_2 t188 _ ?side1 A12.out).mono ?_); (case side1 => exact Tabs.below HT.out (bwA)); rintro e w17 ⟨rfl, hb⟩; refine ⟨_, rfl, ?_⟩; have n0_ := Aside0.mk (blk_below (g := gb185) (o := .cells #[.int .i64 a0_0, .int .i64 a0_1, .string a0_2] 55 (0, 0)) blkA hb); have n1_ := Aside0.mk (below_step (bwA) hb); clear BK185; clear HB; have BK185 := n0_; have HB := n1_; clear n0_ n1_; (try clear hb); (try clear hb2); (try clear hk); (try clear hi)))
    go_ret
    exact ⟨endA, bwA⟩
   ·rw [if_neg c11] at H
    have c11b0 : (a0_0 == 2) = false := beq_eq_false_iff_ne.mpr c11
    have c11b1 : (a0_0 != 2) = true := bne_iff_ne.mpr c11
    by_cases c18 : a0_0 = 3
    ·rw [if_pos c18] at H
     have c18b0 : (a0_0 == 3) = true := beq_iff_eq.mpr c18
     have c18b1 : (a0_0 != 3) = false := bne_eq_false_iff_eq.mpr c18
     clear c18
     replace H := Option.bind_eq_some_iff.mp H
     obtain ⟨t189, A190, H⟩ := H
     replace H : (some t189) = some r := H
     have A19 := Aside0.mk A190
     clear A190
     obtain rfl := Option.some.inj H
     go_enter Tryz.func42, Tryz.ntmps42
     go_wp2_with (first | ((with_reducible refine gate_dst (N := 1) rfl ?_); refine box_event ?hg (N := 1) ?hd (cs := #[.int .i64 a0_0, .int .i64 a0_1, .string a0_2]) (t := 55) ?hr ?_; (case hd => rfl); (case hg => rfl); (case hr => first | (go_simp; done) | (go_simp; rfl)); intro gb185 hg w20 hbox hb; have n0_ := Aside0.mk (below_step (bwA) hb); have n1_ := Aside0.mk (hbox); have n2_ := Aside0.mk ((by rw [hg]; exact (below_size (bwA)) : w.heap.size ≤ gb185)); have n3_ := Aside0.mk ((by rw [hg]; exact (below_size (bwA)) : w.heap.size ≤ gb185)); clear HB; have HB := n0_; have BK185 := n1_; have GW185 := n2_; have GE185 := n3_; clear n0_ n1_ n2_ n3_; clear hb hbox hg; have hcz21_0 : w20.cell? ⟨gb185, 0, none⟩ = some (.int .i64 a0_0) := (blk_cell BK185.out 0).trans rfl; have hcz21_1 : w20.cell? ⟨gb185, 1, none⟩ = some (.int .i64 a0_1) := (blk_cell BK185.out 1).trans rfl; have hcz21_2 : w20.cell? ⟨gb185, 2, none⟩ = some (.string a0_2) := (blk_cell BK185.out 2).trans rfl; have hfz21_0 := blk_frozen BK185.out 0; have hfz21_1 := blk_frozen BK185.out 1; have hfz21_2 := blk_frozen BK185.out 2) | ((with_reducible refine gate_callee (f := 64) rfl ?_); refine goesA (some 4) Tryz.func64 #[.agg #[.int .i64 a0_0, .int .i64 a0_1, .string a0_2]] ?_; (with_reducible refine (value_Check.calls a0_0 a0_1 a0_2 true _ ?side1 A2.out).mono ?_); (case side1 => exact Tabs.below HT.out (bwA)); rintro e w22 ⟨rfl, hb⟩; refine ⟨_, rfl, ?_⟩; have n0_ := Aside0.mk (blk_below (g := gb185) (o := .cells #[.int .i64 a0_0, .int .i64 a0_1, .string a0_2] 55 (0, 0)) blkA hb); have n1_ := Aside0.mk (below_step (bwA) hb); clear BK185; clear HB; have BK185 := n0_; have HB := n1_; clear n0_ n1_; (try clear hb); (try clear hb2); (try clear hk); (try clear hi); have hcz23_0 : w22.cell? ⟨gb185, 0, none⟩ = some (.int .i64 a0_0) := (blk_cell BK185.out 0).trans rfl; have hcz23_1 : w22.cell? ⟨gb185, 1, none⟩ = some (.int .i64 a0_1) := (blk_cell BK185.out 1).trans rfl; have hcz23_2 : w22.cell? ⟨gb185, 2, none⟩ = some (.string a0_2) := (blk_cell BK185.out 2).trans rfl; have hfz23_0 := blk_frozen BK185.out 0; have hfz23_1 := blk_frozen BK185.out 1; have hfz23_2 := blk_frozen BK185.out 2) | ((with_reducible refine gate_callee (f := 76) rfl ?_); refine goesA (some 23) Tryz.func76 #[.bool (a0_1 == 1)] ?_; (with_reducible refine (strconv_FormatBool_76.calls (a0_1 == 1) t189 _ A19.out).mono ?_); rintro e w' ⟨rfl, ⟨nd, rfl⟩⟩; refine ⟨_, rfl, ?_⟩))
     go_ret
     exact ⟨endA, bwA⟩
    ·rw [if_neg c18] at H
     have c18b0 : (a0_0 == 3) = false := beq_eq_false_iff_ne.mpr c18
     have c18b1 : (a0_0 != 3) = true := bne_iff_ne.mpr c18
     replace H := Option.bind_eq_some_iff.mp H
     obtain ⟨t190, A240, H⟩ := H
     replace H : (some t190) = some r := H
     have A24 := Aside0.mk A240
     clear A240
     obtain rfl := Option.some.inj H
     go_enter Tryz.func42, Tryz.ntmps42
     go_wp2_with (first | ((with_reducible refine gate_dst (N := 1) rfl ?_); refine box_event ?hg (N := 1) ?hd (cs := #[.int .i64 a0_0, .int .i64 a0_1, .string a0_2]) (t := 55) ?hr ?_; (case hd => rfl); (case hg => rfl); (case hr => first | (go_simp; done) | (go_simp; rfl)); intro gb185 hg w25 hbox hb; have n0_ := Aside0.mk (below_step (bwA) hb); have n1_ := Aside0.mk (hbox); have n2_ := Aside0.mk ((by rw [hg]; exact (below_size (bwA)) : w.heap.size ≤ gb185)); have n3_ := Aside0.mk ((by rw [hg]; exact (below_size (bwA)) : w.heap.size ≤ gb185)); clear HB; have HB := n0_; have BK185 := n1_; have GW185 := n2_; have GE185 := n3_; clear n0_ n1_ n2_ n3_; clear hb hbox hg; have hcz26_0 : w25.cell? ⟨gb185, 0, none⟩ = some (.int .i64 a0_0) := (blk_cell BK185.out 0).trans rfl; have hcz26_1 : w25.cell? ⟨gb185, 1, none⟩ = some (.int .i64 a0_1) := (blk_cell BK185.out 1).trans rfl; have hcz26_2 : w25.cell? ⟨gb185, 2, none⟩ = some (.string a0_2) := (blk_cell BK185.out 2).trans rfl; have hfz26_0 := blk_frozen BK185.out 0; have hfz26_1 := blk_frozen BK185.out 1; have hfz26_2 := blk_frozen BK185.out 2) | ((with_reducible refine gate_callee (f := 64) rfl ?_); refine goesA (some 4) Tryz.func64 #[.agg #[.int .i64 a0_0, .int .i64 a0_1, .string a0_2]] ?_; (with_reducible refine (value_Check.calls a0_0 a0_1 a0_2 true _ ?side1 A2.out).mono ?_); (case side1 => exact Tabs.below HT.out (bwA)); rintro e w27 ⟨rfl, hb⟩; refine ⟨_, rfl, ?_⟩; have n0_ := Aside0.mk (blk_below (g := gb185) (o := .cells #[.int .i64 a0_0, .int .i64 a0_1, .string a0_2] 55 (0, 0)) blkA hb); have n1_ := Aside0.mk (below_step (bwA) hb); clear BK185; clear HB; have BK185 := n0_; have HB := n1_; clear n0_ n1_; (try clear hb); (try clear hb2); (try clear hk); (try clear hi); have hcz28_0 : w27.cell? ⟨gb185, 0, none⟩ = some (.int .i64 a0_0) := (blk_cell BK185.out 0).trans rfl; have hcz28_1 : w27.cell? ⟨gb185, 1, none⟩ = some (.int .i64 a0_1) := (blk_cell BK185.out 1).trans rfl; have hcz28_2 : w27.cell? ⟨gb185, 2, none⟩ = some (.string a0_2) := (blk_cell BK185.out 2).trans rfl; have hfz28_0 := blk_frozen BK185.out 0; have hfz28_1 := blk_frozen BK185.out 1; have hfz28_2 := blk_frozen BK185.out 2) | ((with_reducible refine gate_callee (f := 77) rfl ?_); refine goesA (some 26) Tryz.func77 #[.string a0_2] ?_; (with_reducible refine (value_hexed.calls k a0_2 t190 _ A24.out).mono ?_); rintro e w29 ⟨rfl, hb⟩; refine ⟨_, rfl, ?_⟩; have n0_ := Aside0.mk (blk_below (g := gb185) (o := .cells #[.int .i64 a0_0, .int .i64 a0_1, .string a0_2] 55 (0, 0)) blkA hb); have n1_ := Aside0.mk (below_step (bwA) hb); clear BK185; clear HB; have BK185 := n0_; have HB := n1_; clear n0_ n1_; (try clear hb); (try clear hb2); (try clear hk); (try clear hi)))
     go_ret
     exact ⟨endA, bwA⟩
 ·replace c3 := Bool.eq_false_iff.mpr c3
  subst c3
  have H1 : (some (⟨#[]⟩ : ByteArray)) = some r := by rw [if_neg (show ¬ (false = true) by decide)] at H; exact H
  clear H
  have H := H1
  clear H1
  obtain rfl := Option.some.inj H
  go_enter Tryz.func42, Tryz.ntmps42
  go_wp2_with (first | ((with_reducible refine gate_dst (N := 1) rfl ?_); refine box_event ?hg (N := 1) ?hd (cs := #[.int .i64 a0_0, .int .i64 a0_1, .string a0_2]) (t := 55) ?hr ?_; (case hd => rfl); (case hg => rfl); (case hr => first | (go_simp; done) | (go_simp; rfl)); intro gb185 hg w30 hbox hb; have n0_ := Aside0.mk (below_step (bwA) hb); have n1_ := Aside0.mk (hbox); have n2_ := Aside0.mk ((by rw [hg]; exact (below_size (bwA)) : w.heap.size ≤ gb185)); have n3_ := Aside0.mk ((by rw [hg]; exact (below_size (bwA)) : w.heap.size ≤ gb185)); clear HB; have HB := n0_; have BK185 := n1_; have GW185 := n2_; have GE185 := n3_; clear n0_ n1_ n2_ n3_; clear hb hbox hg; have hcz31_0 : w30.cell? ⟨gb185, 0, none⟩ = some (.int .i64 a0_0) := (blk_cell BK185.out 0).trans rfl; have hcz31_1 : w30.cell? ⟨gb185, 1, none⟩ = some (.int .i64 a0_1) := (blk_cell BK185.out 1).trans rfl; have hcz31_2 : w30.cell? ⟨gb185, 2, none⟩ = some (.string a0_2) := (blk_cell BK185.out 2).trans rfl; have hfz31_0 := blk_frozen BK185.out 0; have hfz31_1 := blk_frozen BK185.out 1; have hfz31_2 := blk_frozen BK185.out 2) | ((with_reducible refine gate_callee (f := 64) rfl ?_); refine goesA (some 4) Tryz.func64 #[.agg #[.int .i64 a0_0, .int .i64 a0_1, .string a0_2]] ?_; (with_reducible refine (value_Check.calls a0_0 a0_1 a0_2 false _ ?side1 A2.out).mono ?_); (case side1 => exact Tabs.below HT.out (bwA)); rintro e w32 ⟨rfl, hb⟩; refine ⟨_, rfl, ?_⟩; have n0_ := Aside0.mk (blk_below (g := gb185) (o := .cells #[.int .i64 a0_0, .int .i64 a0_1, .string a0_2] 55 (0, 0)) blkA hb); have n1_ := Aside0.mk (below_step (bwA) hb); clear BK185; clear HB; have BK185 := n0_; have HB := n1_; clear n0_ n1_; (try clear hb); (try clear hb2); (try clear hk); (try clear hi)))
  go_ret
  exact ⟨endA, bwA⟩

end Go.Proofs.YtplemgmfnghoeaaGreatDoor.A
