-- By drv.py, the session's own driver round the kit's print: the machine's side of the laws, function by function. Not trusted: Lean checks it.
import Derived.Test.YtlejenoibblhnaaDoorAx0
import Derived.Test.YtlejenoibblhnaaDoorAx2
import Derived.Test.YtlejenoibblhnaaDoorAx9
namespace Go.Proofs.YtlejenoibblhnaaDoor.A
open Go.RowKit Go.Proofs.YtlejenoibblhnaaDoorW.PrintWords Go.Proofs.YtlejenoibblhnaaDoorW.PrintLast Go.Proofs.YtlejenoibblhnaaDoorW.PrintMore
attribute [local go_sem] max2_int min2_int max_two min_two max_three min_three max_four min_four   -- for this text's walks alone
set_option linter.unusedVariables false
set_option linter.unusedSimpArgs false

/-! ### value_quoted: function 18, by hand -/
def quotedFrom (s : ByteArray) : Nat → Nat → List UInt8
 | 0, _ => []
 | f + 1, pos => if pos < s.size then (escB (Utf8.decode s pos).1).data.toList ++ quotedFrom s f (pos + (Utf8.decode s pos).2) else []
theorem quotedFrom_end (s : ByteArray) (fuel pos : Nat) (h : ¬ pos < s.size) : quotedFrom s fuel pos = [] := by
 cases fuel with
 | zero => rfl
 | succ f => simp [quotedFrom, h]
theorem escB_le (c : Int) : (escB c).size ≤ 6 := by
 have h4 := encode_le4 c
 have h2 := hexStr_size c
 unfold escB
 repeat' split
 all_goals first | (simp only [ByteArray.size_append]; show 1 + _ ≤ 6; omega) | (simp only [ByteArray.size_append]; show 3 + _ + 1 ≤ 6; omega) | (show (2 : Nat) ≤ 6; omega) | omega
def value_quoted.f (a0 : ByteArray) : Option ByteArray := if a0.size ≤ 1099511627776 then some ⟨(34 :: (quotedFrom a0 a0.size 0 ++ [34])).toArray⟩ else none
set_option maxHeartbeats 4000000 in
set_option maxRecDepth 100000 in
theorem value_quoted.calls (a0 : ByteArray) (r : ByteArray) (w : World) (hT : Tabs w) (h : value_quoted.f a0 = some r) :
  Calls Tryd.prog 18 #[.string a0] w fun e w' => e = .returned (.string r) ∧ Below w.heap.size w w' := by
 unfold value_quoted.f at h
 split at h
 ·rename_i hs
  obtain rfl := Option.some.inj h
  clear h
  have hw0 : ∀ W : World, Below w.heap.size w W → Tabs W := fun W hb => hT.below hb
  go_enter Tryd.func18, Tryd.ntmps18
  go_wp2_with fail
  refine (Tryd.Bld_WriteByte w.heap.size w.heap.size [] 34 _ (Lib.IsBuilderF.of (Lib.fresh_isBuilder 57 5 w)) (by simp) (by simp)).mono ?_
  rintro e W1 ⟨rfl, h1, b1, k1⟩
  have bw1 : Below w.heap.size w W1 := ((Below.refl _ w).alloc (Nat.le_refl _) _).trans b1
  have I1 : Lib.IsBuilderF 57 5 w.heap.size w.heap.size (Lib.byteCells [34]) W1 := Or.inr h1
  clear h1 b1 k1
  go_wp2_with fail
  go_loopw [] (fun wr => ∃ (pos fuel : Nat) (acc : List UInt8), Lib.IsBuilderF 57 5 w.heap.size w.heap.size (Lib.byteCells acc) wr ∧ wr.heap[W1.heap.size]? = some (.stringIter a0 pos) ∧ Below w.heap.size w wr ∧ acc ++ quotedFrom a0 fuel pos = 34 :: quotedFrom a0 a0.size 0 ∧ a0.size ≤ pos + fuel ∧ acc.length + 6 * fuel ≤ 1 + 6 * a0.size) (fun wr => a0.size - wr.iterPos W1.heap.size)
  case atStart =>
   refine ⟨0, a0.size, [34], I1.alloc _, World.iter_heap W1 a0 0, bw1.alloc bw1.size _, rfl, by omega, by simp⟩
  case round =>
   obtain ⟨pos, fuel, acc, hI, hit, hbw, hacc, hfu, hal⟩ := hrel
   have hsz : W1.heap.size < wr.heap.size := (Array.getElem?_eq_some_iff.1 hit).1
   have hsw : w.heap.size ≤ W1.heap.size := bw1.size
   have hne : W1.heap.size ≠ w.heap.size := by
    intro e1
    rcases I1 with ⟨_, v, hb, _⟩ | ⟨_, v, hb, _⟩
    all_goals (have := (Array.getElem?_eq_some_iff.1 hb).1; omega)
   by_cases hp : pos < a0.size
   ·have hnx : ∀ ty, (Instr.next (.pointer (some ⟨W1.heap.size, 0, none⟩)) true ty).run Tryd.prog wr = _ := fun ty => Lib.run_next_any_at wr W1.heap.size a0 pos ty hit hp
    have hwd := Lib.width_pos a0 pos
    have hd1 := decode_le a0 pos
    have hI2 := hI.iterAt hit (pos + (Utf8.decode a0 pos).2)
    have hit2 := Lib.iterAt_heap wr W1.heap.size a0 pos (pos + (Utf8.decode a0 pos).2) hit
    have hbw2 := Lib.below_iterAt hbw (k := W1.heap.size) hsw a0 (pos + (Utf8.decode a0 pos).2)
    have hsz2 : w.heap.size ≤ (wr.iterAt W1.heap.size a0 (pos + (Utf8.decode a0 pos).2)).heap.size := by rw [Lib.iterAt_size]; omega
    obtain ⟨f, rfl⟩ : ∃ f, fuel = f + 1 := ⟨fuel - 1, by omega⟩
    have hq : quotedFrom a0 (f + 1) pos = (escB (Utf8.decode a0 pos).1).data.toList ++ quotedFrom a0 f (pos + (Utf8.decode a0 pos).2) := by rw [quotedFrom, if_pos hp]
    have hle := escB_le ((Utf8.decode a0 pos).1 : Int)
    have cE := fun W hW => value_escape.calls ((Utf8.decode a0 pos).1 : Int) (escB (Utf8.decode a0 pos).1) W hW (by unfold value_escape.f; rw [if_pos (by omega)])
    generalize escB ((Utf8.decode a0 pos).1 : Int) = E at hq hle cE
    have Hq := Lib.hid hq
    clear hq
    go_wp2_with fail
    refine (cE _ (hw0 _ hbw2)).mono ?_
    rintro e W2 ⟨rfl, hb2⟩
    have hI3 := builderF_below hI2 hb2
    have hit3 := heap_below hit2 hb2
    have hbw3 : Below w.heap.size w W2 := hbw2.trans (hb2.mono hsz2)
    have hsz3 : w.heap.size ≤ W2.heap.size := Nat.le_trans hsz2 hb2.size
    clear hI2 hbw2 cE hnx
    go_wp2_with fail
    refine (Tryd.Bld_WriteString w.heap.size w.heap.size _ E _ hI3 (by rw [Lib.byteCells_length]; omega) hsz3).mono ?_
    rintro e W3 ⟨rfl, h1, b1, k1⟩
    have hit4 := k1.iter hit3 hne
    go_wp2
    go_roundw
    case rel =>
     refine ⟨pos + (Utf8.decode a0 pos).2, f, acc ++ E.data.toList, ?_, hit4, hbw3.trans b1, ?_, by omega, ?_⟩
     ·rw [Lib.byteCells_append, ← strCells_mk]; exact Or.inr h1
     ·rw [← hacc, Hq.out, List.append_assoc]
     ·have : E.data.toList.length = E.size := by rw [Array.length_toList]; rfl
      simp only [List.length_append, this]; omega
    case measure =>
     simp only [World.iterPos, hit4, hit]
     omega
   ·have hnx : ∀ ty, (Instr.next (.pointer (some ⟨W1.heap.size, 0, none⟩)) true ty).run Tryd.prog wr = _ := fun ty => Lib.run_next_end_at wr W1.heap.size a0 pos ty hit hp
    rw [quotedFrom_end a0 fuel pos hp, List.append_nil] at hacc
    have hsz3 : w.heap.size ≤ wr.heap.size := by omega
    have Hacc := Lib.hid hacc
    clear hacc
    go_wp2_with fail
    refine (Tryd.Bld_WriteByte w.heap.size w.heap.size _ 34 _ hI (by rw [Lib.byteCells_length]; omega) hsz3).mono ?_
    rintro e W3 ⟨rfl, h1, b1, k1⟩
    have I3 : Lib.IsBuilderF 57 5 w.heap.size w.heap.size (Lib.byteCells (acc ++ [34])) W3 := by
     rw [Lib.byteCells_append]; exact Or.inr h1
    have hb3 := hbw.trans b1
    clear h1 k1
    go_wp2_with fail
    refine (Tryd.Builder_String_any_k w.heap.size w.heap.size (acc ++ [34]) _ I3 (Nat.le_trans hsz3 b1.size)).mono ?_
    rintro e W4 ⟨rfl, _, b4, _⟩
    go_wp2
    go_ret
    rw [Hacc.out]
    exact ⟨rfl, hb3.trans b4⟩
 ·cases h
/-! ### strconv_FormatBool_33: function 33 -/
def strconv_FormatBool_33.f (a0 : Bool) : Option (ByteArray) := if a0 = true then (some (⟨#[116, 114, 117, 101]⟩ : ByteArray)) else (some (⟨#[102, 97, 108, 115, 101]⟩ : ByteArray))
set_option maxHeartbeats 8000000 in
set_option maxRecDepth 100000 in
theorem strconv_FormatBool_33.calls (a0 : Bool) (r : ByteArray) (w : World) (h : strconv_FormatBool_33.f a0 = some r) :
  Calls Tryd.prog 33 #[.bool a0] w fun e w' => e = .returned (.string r) ∧ Drawn0 w w' := by
 unfold strconv_FormatBool_33.f at h
 have H := h
 clear h
 revert H; refine itR ?L1p ?L1n
 case' L1p =>
  intro c2 H
  subst c2
  obtain rfl := Option.some.inj H
 case' L1n =>
  intro c2 H
  replace c2 := Bool.eq_false_iff.mpr c2
  subst c2
  obtain rfl := Option.some.inj H
 all_goals
  case _ =>
   go_enter Tryd.func33, Tryd.ntmps33
   go_wp2
   go_ret
   exact ⟨endS, drA⟩
/-! ### strconv_FormatBool_19: function 19 -/
def strconv_FormatBool_19.f (a0 : Bool) : Option (ByteArray) := (strconv_FormatBool_33.f a0).bind fun t181 => (some t181)
set_option maxHeartbeats 8000000 in
set_option maxRecDepth 100000 in
theorem strconv_FormatBool_19.calls (a0 : Bool) (r : ByteArray) (w : World) (h : strconv_FormatBool_19.f a0 = some r) :
  Calls Tryd.prog 19 #[.bool a0] w fun e w' => e = .returned (.string r) ∧ Drawn0 w w' := by
 unfold strconv_FormatBool_19.f at h
 have H := h
 clear h
 replace H := Option.bind_eq_some_iff.mp H
 obtain ⟨t181, A20, H⟩ := H
 replace H : (some t181) = some r := H
 have A2 := Aside0.mk A20
 clear A20
 obtain rfl := Option.some.inj H
 go_enter Tryd.func19, Tryd.ntmps19
 go_wp2_with (first | ((with_reducible refine gate_callee (f := 33) rfl ?_); refine goesA (some 4) Tryd.func33 #[.bool a0] ?_; (with_reducible refine (strconv_FormatBool_33.calls a0 t181 _ A2.out).mono ?_); rintro e w' ⟨rfl, ⟨nd, rfl⟩⟩; refine ⟨_, rfl, ?_⟩))
 go_ret
 exact ⟨endS, drA⟩

/-! ### value_hexed: function 20 -/
def value_hexed.l0 : Nat → ByteArray → List Int → Int → Int → Option (ByteArray)
 | 0, _, _, _, _ => none
 | k + 1, x0, x3, x8, x9 => if x9 < x8 then (if 0 ≤ x9 then (if x9 < (x0.size : Int) then (if 0 ≤ ((bt x0 x9) / 16) then (if ((bt x0 x9) / 16) < 16 then (if 0 ≤ (Go.bits .and .u8 (bt x0 x9) 15) then (if (Go.bits .and .u8 (bt x0 x9) 15) < 16 then ((some (([bt (⟨#[48, 49, 50, 51, 52, 53, 54, 55, 56, 57, 97, 98, 99, 100, 101, 102]⟩ : ByteArray) ((bt x0 x9) / 16), bt (⟨#[48, 49, 50, 51, 52, 53, 54, 55, 56, 57, 97, 98, 99, 100, 101, 102]⟩ : ByteArray) (Go.bits .and .u8 (bt x0 x9) 15)] : List Int) : List Int)).bind fun y185 => (if x3.length + y185.length < 140737488355328 then (value_hexed.l0 k x0 (x3 ++ y185) x8 (wrap64 (x9 + 1))) else (none))) else (none)) else (none)) else (none)) else (none)) else (none)) else (none)) else (if x3.length < 140737488355328 then (some (strOfNums (x3 ++ [39]))) else (none))
def value_hexed.f (k : Nat) (a0 : ByteArray) : Option (ByteArray) := value_hexed.l0 k a0 (([120, 39] : List Int)) (a0.size : Int) 0
theorem value_hexed.mono_l : ∀ k, (∀ y0 y1 y2 y3, LeO (value_hexed.l0 k y0 y1 y2 y3) (value_hexed.l0 (k + 1) y0 y1 y2 y3))
 | 0 => fun _ _ _ _ r h => by simp [value_hexed.l0] at h
 | k + 1 => by
  have ih0 := value_hexed.mono_l k
  ·intro y0 y1 y2 y3
   unfold value_hexed.l0
   repeat' (with_reducible first | exact ih0 _ _ _ _ | exact LeO.refl _ | exact LeO.none _ | refine LeO.ite ?_ ?_ | refine LeO.bind ?_ (fun _ => ?_))
theorem value_hexed.mono : ∀ a0 k, LeO (value_hexed.f k a0) (value_hexed.f (k + 1) a0) := by
 intro a0 k
 have ih0 := value_hexed.mono_l k
 unfold value_hexed.f
 repeat' (with_reducible first | exact ih0 _ _ _ _ | exact LeO.refl _ | exact LeO.none _ | refine LeO.ite ?_ ?_ | refine LeO.bind ?_ (fun _ => ?_))
def value_hexed.T5 : Bool × List (List Nat × List Nat) := (true, [([], []), ([], []), ([], []), ([1, 2], [1, 2]), ([3], [3]), ([4], [4]), ([], []), ([], []), ([6, 7], [6, 7]), ([8], [8]), ([9], [9]), ([5, 10], [5, 10]), ([0, 11], [0, 11]), ([12, 12, 0, 1, 2, 3, 4, 5, 6, 7, 8, 9, 10, 11, 12], [0, 12])])
def value_hexed.B5 : List Nat := [0, 0, 0, 6, 14, 30, 0, 0, 192, 448, 960, 2046, 4095, 8191]
theorem value_hexed.tab5 : rtab .any (opsOf Tryd.f20 5) = value_hexed.T5 := by kernel_rfl
theorem value_hexed.bits5 : waitsOk value_hexed.T5.2 value_hexed.B5 = true := by kernel_rfl
set_option maxHeartbeats 8000000 in
set_option maxRecDepth 100000 in
theorem value_hexed.calls (k : Nat) (a0 : ByteArray) (r : ByteArray) (w : World) (h : value_hexed.f k a0 = some r) :
  Calls Tryd.prog 20 #[.string a0] w fun e w' => e = .returned (.string r) ∧ Below w.heap.size w w' := by
 have HB := Aside0.mk (Below.refl w.heap.size w)
 unfold value_hexed.f at h
 have H := h
 clear h
 first | ((with_reducible replace H := bsG H); obtain ⟨y182, Ny182, H⟩ := H) | (obtain ⟨y182, hy182⟩ : ∃ y_ : List Int, y_ = (([120, 39] : List Int)) := ⟨_, rfl⟩; rw [← hy182] at H; have Ny182 := Aside0.mk hy182; clear hy182)
 have H' := Aside0.mk H
 clear H
 go_enter Tryd.func20, Tryd.ntmps20
 have kc := fun (W : World) (C : Array Value) (n c : Nat) => Lib.run_convert_bytes_const (P := Tryd.prog) W 22 5 C n c Tryd.underlying22 Tryd.underlying5
 go_wp2
 go_loopg [3, 9] k (fun kq v3 v9 w' => ∃ (x3_1 : List Int) (x9_1 : Int), v9 = .int .i64 x9_1 ∧ Aside0 (value_hexed.l0 kq a0 x3_1 (a0.size : Int) x9_1 = some r) ∧ Aside0 (kq ≤ k) ∧ Aside0 (HxR w' w.heap.size (fun _ => True) v3 x3_1) ∧ Aside0 (Below w.heap.size w w'))
 case atStart => exact ⟨[120, 39], (0), (endS), (by have h_ := H'; rw [Ny182.out] at h_; exact h_), ⟨Nat.le_refl _⟩, ⟨.inr ⟨w.heap.size, rfl, Nat.le_refl _, by simp, trivial, fun j u hj => (Lib.cell_of_heap (heap_alloc_new w _) j).trans (by rw [← hj]; rcases j with _ | _ | j <;> rfl)⟩⟩, ⟨(below_alloc (Below.refl _ _) _)⟩⟩
 case round =>
  clear H'
  try clear c2
  try clear p2
  try clear c20
  obtain ⟨x3_1, x9_1, rfl, HA, HK1, HO_3, HB⟩ := hrel
  cases gk with
  | zero => exact absurd HA.out (by simp [value_hexed.l0])
  | succ k1 =>
   have H := HA.out
   clear HA
   simp only [value_hexed.l0] at H
   revert H; refine itR ?L1p ?L1n
   case' L1p =>
    intro c103 H
    have c103b0 := decide_eq_true c103
    clear c103
    replace H := itN H
    obtain ⟨c104, H⟩ := H
    have c104b0 := decide_eq_true c104
    clear c104
    replace H := itN H
    obtain ⟨c105, H⟩ := H
    have c105b0 := decide_eq_true c105
    clear c105
    obtain ⟨ji107, hji107⟩ : ∃ j_ : Int, ((bt a0 x9_1) / 16) = j_ := ⟨_, rfl⟩
    replace H : (if 0 ≤ (ji107) then (if (ji107) < 16 then (if 0 ≤ (Go.bits .and .u8 (bt a0 x9_1) 15) then (if (Go.bits .and .u8 (bt a0 x9_1) 15) < 16 then ((some (([bt (⟨#[48, 49, 50, 51, 52, 53, 54, 55, 56, 57, 97, 98, 99, 100, 101, 102]⟩ : ByteArray) (ji107), bt (⟨#[48, 49, 50, 51, 52, 53, 54, 55, 56, 57, 97, 98, 99, 100, 101, 102]⟩ : ByteArray) (Go.bits .and .u8 (bt a0 x9_1) 15)] : List Int) : List Int)).bind fun y185 => (if x3_1.length + y185.length < 140737488355328 then (value_hexed.l0 k1 a0 (x3_1 ++ y185) (a0.size : Int) (wrap64 (x9_1 + 1))) else (none))) else (none)) else (none)) else (none)) else (none)) = some r := by first | (rw [hji107] at H; exact H) | (simp only [hji107] at H ⊢; exact H)
    replace H := itN H
    obtain ⟨c108, H⟩ := H
    have c108b0 := decide_eq_true c108
    clear c108
    replace H := itN H
    obtain ⟨c109, H⟩ := H
    have c109b0 := decide_eq_true c109
    clear c109
    replace H := itN H
    obtain ⟨c112, H⟩ := H
    have c112b0 := decide_eq_true c112
    clear c112
    replace H := itN H
    obtain ⟨c113, H⟩ := H
    have c113b0 := decide_eq_true c113
    clear c113
    first | ((with_reducible replace H := bsG H); obtain ⟨y185, Ny185, H⟩ := H) | (obtain ⟨y185, hy185⟩ : ∃ y_ : List Int, y_ = (([bt (⟨#[48, 49, 50, 51, 52, 53, 54, 55, 56, 57, 97, 98, 99, 100, 101, 102]⟩ : ByteArray) (ji107), bt (⟨#[48, 49, 50, 51, 52, 53, 54, 55, 56, 57, 97, 98, 99, 100, 101, 102]⟩ : ByteArray) (Go.bits .and .u8 (bt a0 x9_1) 15)] : List Int)) := ⟨_, rfl⟩; rw [← hy185] at H; have Ny185 := Aside0.mk hy185; clear hy185)
    replace H := itN H
    obtain ⟨c115, H⟩ := H
    have LMc115 := Aside0.mk c115
    clear c115
    first | ((with_reducible replace H := bsG H); obtain ⟨y188, Ny188, H⟩ := H) | (obtain ⟨y188, hy188⟩ : ∃ y_ : List Int, y_ = (x3_1 ++ y185) := ⟨_, rfl⟩; rw [← hy188] at H; have Ny188 := Aside0.mk hy188; clear hy188)
    have H' := Aside0.mk H
    clear H
    try go_wp2
    replace HO_3 := Aside0.mk (HxR.drew HO_3.out)
    replace HB := Aside0.mk (below_drew1 HB.out)
    have p106 : 0 ≤ (x9_1 : Int) := odA
    have q106 : x9_1 < (a0.size : Int) := odA
    have hx106 := bt_at a0 x9_1
    replace p106 := eq_true p106
    replace q106 := eq_true q106
    have p110 : 0 ≤ ((ji107) : Int) := odA
    have q110 : (ji107) < (16 : Int) := odA
    have hx110 := bt_at (⟨#[48, 49, 50, 51, 52, 53, 54, 55, 56, 57, 97, 98, 99, 100, 101, 102]⟩ : ByteArray) (ji107)
    replace p110 := eq_true p110
    replace q110 := eq_true q110
    have p111 : 0 ≤ (x9_1 : Int) := odA
    have q111 : x9_1 < (a0.size : Int) := odA
    have hx111 := bt_at a0 x9_1
    replace p111 := eq_true p111
    replace q111 := eq_true q111
    have p114 : 0 ≤ ((Go.bits .and .u8 (bt a0 x9_1) 15) : Int) := odA
    have q114 : (Go.bits .and .u8 (bt a0 x9_1) 15) < (16 : Int) := odA
    have hx114 := bt_at (⟨#[48, 49, 50, 51, 52, 53, 54, 55, 56, 57, 97, 98, 99, 100, 101, 102]⟩ : ByteArray) (Go.bits .and .u8 (bt a0 x9_1) 15)
    replace p114 := eq_true p114
    replace q114 := eq_true q114
    refine start_ (n := 14) (S := fun w' => True) (ds := []) (mkB 14 0) (by kernel_rfl) rfl rfl trivial (fun hHeld => ?_); refine with_tabW value_hexed.tab5 value_hexed.bits5 (fun HT_ HW_ => ?_)
    generalize wr.drew = w201 at HO_3 HB hHeld ⊢
    refine pureA 0 (some 12) (mkB 14 1) ?_
    refine pureA 1 (some 13) (mkB 14 3) ?_
    refine pureA 2 (some 14) (mkB 14 7) ?_
    refine pureA 6 (some 18) (mkB 14 71) ?_
    refine pureA 7 (some 19) (mkB 14 199) ?_
    refine take_ (i := 3) (N := some 15) (v := ?_) (a' := ?_) (mkB 14 207) rfl rfl (take_ofW HT_.out HW_.out (by kernel_rfl)) (fun _ _ _ h => h) (Or.inl ⟨by rfl, ?_⟩) hHeld ?_ ?_
    rotate_left
    ·intro w' _
     go_simp
     with_reducible rfl
    rotate_left
    ·simp only [Act.put, List.setIfInBounds_toArray, List.set_cons_zero, List.set_cons_succ, i64_w, i32_w]
     rfl
    refine pureA 4 (some 16) (mkB 14 223) ?_
    refine take_ (i := 5) (N := some 17) (v := ?_) (a' := ?_) (mkB 14 255) rfl rfl (take_ofW HT_.out HW_.out (by kernel_rfl)) (fun _ _ _ h => h) (Or.inl ⟨by rfl, ?_⟩) hHeld ?_ ?_
    rotate_left
    ·intro w' _
     go_simp
     with_reducible rfl
    rotate_left
    ·simp only [Act.put, List.setIfInBounds_toArray, List.set_cons_zero, List.set_cons_succ, i64_w, i32_w]
     rfl
    refine take_ (i := 8) (N := some 20) (v := ?_) (a' := ?_) (mkB 14 511) rfl rfl (take_ofW HT_.out HW_.out (by kernel_rfl)) (fun _ _ _ h => h) (Or.inl ⟨by rfl, ?_⟩) hHeld ?_ ?_
    rotate_left
    ·intro w' _
     go_simp
     with_reducible rfl
    rotate_left
    ·simp only [Act.put, List.setIfInBounds_toArray, List.set_cons_zero, List.set_cons_succ, i64_w, i32_w]
     rfl
    refine pureA 9 (some 21) (mkB 14 1023) ?_
    refine take_ (i := 10) (N := some 22) (v := ?_) (a' := ?_) (mkB 14 2047) rfl rfl (take_ofW HT_.out HW_.out (by kernel_rfl)) (fun _ _ _ h => h) (Or.inl ⟨by rfl, ?_⟩) hHeld ?_ ?_
    rotate_left
    ·intro w' _
     go_simp
     with_reducible rfl
    rotate_left
    ·simp only [Act.put, List.setIfInBounds_toArray, List.set_cons_zero, List.set_cons_succ, i64_w, i32_w]
     rfl
    refine oneA 11 (some 23) (mkB 14 4095) (fun K hK => ?_)
    refine Kd.R_lit_step (Kd.int .u8) _ 5 ?hg (N := 23) ?hd (xs := ([bt (⟨#[48, 49, 50, 51, 52, 53, 54, 55, 56, 57, 97, 98, 99, 100, 101, 102]⟩ : ByteArray) (ji107), bt (⟨#[48, 49, 50, 51, 52, 53, 54, 55, 56, 57, 97, 98, 99, 100, 101, 102]⟩ : ByteArray) (Go.bits .and .u8 (bt a0 x9_1) 15)] : List Int)) (inner := [.int .u8 (bt (⟨#[48, 49, 50, 51, 52, 53, 54, 55, 56, 57, 97, 98, 99, 100, 101, 102]⟩ : ByteArray) (ji107)), .int .u8 (bt (⟨#[48, 49, 50, 51, 52, 53, 54, 55, 56, 57, 97, 98, 99, 100, 101, 102]⟩ : ByteArray) (Go.bits .and .u8 (bt a0 x9_1) 15))]) (ok := fun _ => True) (okp := fun _ => True) ?hr ?hp (fun _ hk => hk) trivial (Below.refl _ _) (Nat.le_refl _) (by simp) ?_; (case hd => rfl); (case hg => rfl); (case hr => first | (go_simp; done) | (go_simp; rfl)); (case hp => exact (Reps.one (show Kd.M (Kd.int .u8) _ _ _ (bt (⟨#[48, 49, 50, 51, 52, 53, 54, 55, 56, 57, 97, 98, 99, 100, 101, 102]⟩ : ByteArray) (ji107)) [.int .u8 (bt (⟨#[48, 49, 50, 51, 52, 53, 54, 55, 56, 57, 97, 98, 99, 100, 101, 102]⟩ : ByteArray) (ji107))] from rfl) (Reps.one (show Kd.M (Kd.int .u8) _ _ _ (bt (⟨#[48, 49, 50, 51, 52, 53, 54, 55, 56, 57, 97, 98, 99, 100, 101, 102]⟩ : ByteArray) (Go.bits .and .u8 (bt a0 x9_1) 15)) [.int .u8 (bt (⟨#[48, 49, 50, 51, 52, 53, 54, 55, 56, 57, 97, 98, 99, 100, 101, 102]⟩ : ByteArray) (Go.bits .and .u8 (bt a0 x9_1) 15))] from rfl) (Reps.none _ _))))
    intro v186 w202 ho203 hb hg_ hnew_
    clear hg_ hnew_
    (first | rw [← Ny185.out] at ho203 | (simp only [Int.reduceToNat] at ho203; rw [← Ny185.out] at ho203))
    have HO187 := Aside0.mk (Kd.R_lower (Kd.R_new' ho203 (HxR.lt (by (with_reducible repeat (first | apply HxR.alloc | apply HxR.drewN | apply HxR.drew)); exact HO_3.out))) (below_size (bwA)))
    replace HO_3 := Aside0.mk (HxR.elder' (by (with_reducible repeat (first | apply HxR.alloc | apply HxR.drewN | apply HxR.drew)); exact HO_3.out) (Kd.R_base ho203) hb)
    replace HB := Aside0.mk (below_step (bwA) hb)
    clear hb ho203
    obtain ⟨Ao205, co205, eo205⟩ := Kd.R_slice HO187.out
    (first | subst eo205 | (injection eo205 with f1_ f2_ f3_; have f4_ := f1_.symm; have f5_ := f3_.symm; clear f1_ f2_ f3_; subst f4_; subst f5_))
    refine hK.out _ _ trivial (fun hHeld => ?_)
    clear hK K
    refine normA ?_
    refine oneA 12 (some 24) (mkB 14 8191) (fun K hK => ?_)
    refine HxR.append_rows_step (w0 := w) w.heap.size (by rfl) (.tmp 12) (.tmp 23) 22 rfl Tryd.underlying22 info5 u3 x3_1 y185 _ _ _ (fun k_ => some k_ ≠ (.slice Ao205 y185.length co205 : Value).ownBlock) rfl rfl ?aO ?aR (by rw [Ny185.out]; exact Nat.zero_lt_succ _) ?aF ?aB ?aS ?aL ?_
    (case aR => repeat (first | exact (Kd.R_reads' HO187.out).2.2 | (with_reducible refine Kd.C_alloc ?_ _) | (with_reducible refine Kd.C_drewN ?_ _) | (with_reducible refine Kd.C_drew ?_)))
    (case aB => exact (bwA))
    (case aF => exact (fun k_ hk => Kd.fresh' (Kd.R_lt (raA HO187.out)) k_ hk))
    (case aO => exact (by (with_reducible repeat (first | apply HxR.alloc | apply HxR.drewN | apply HxR.drew)); exact HxR.mono HO_3.out (fun _ hk => hk.2)))
    (case aS => exact (below_size (bwA)))
    (case aL => have := LMc115.out; omega)
    intro v189 w204 ho hb hg hat
    rw [← Ny188.out] at ho
    have n0_ := Aside0.mk (Kd.R_after (ok := (fun _ => True)) (raA HO187.out) hg hat)
    have n1_ := Aside0.mk (hb)
    have n2_ := Aside0.mk (ho)
    clear HO187
    clear HB
    clear HO_3
    have HO187 := n0_
    have HB := n1_
    have HO190 := n2_
    clear n0_ n1_ n2_
    clear ho hb hg hat
    refine hK.out _ _ trivial (fun hHeld => ?_)
    clear hK K
    refine normA ?_
    refine pureA 13 (some 3) (mkB 14 16383) ?_
    refine done_ (done_of HT_.out (by kernel_rfl)) ?_
    try go_wp2
    go_roundg k1
    case measure => have := HK1.out; omega
    case rel => exact ⟨(y188), (wrap64 (x9_1 + 1)), (endS), H', ⟨by have := HK1.out; omega⟩, ⟨.inl (raA (Kd.R_mono HO190.out (fun _ hk => trivial)))⟩, ⟨bwA⟩⟩
   case' L1n =>
    intro c103 H
    have c103b0 := decide_eq_false c103
    clear c103
    replace H := itN H
    obtain ⟨c104, H⟩ := H
    have LMc104 := Aside0.mk c104
    clear c104
    first | ((with_reducible replace H := bsG H); obtain ⟨y191, Ny191, H⟩ := H) | (obtain ⟨y191, hy191⟩ : ∃ y_ : List Int, y_ = (x3_1 ++ [39]) := ⟨_, rfl⟩; rw [← hy191] at H; have Ny191 := Aside0.mk hy191; clear hy191)
    obtain rfl := Option.some.inj H
    try go_wp2_with (first | ((with_reducible refine gate_builtin (b := .append) (xs := #[.tmp 26, .tmp 27]) rfl ?_); at_builtin; refine HxR.append_list (w0 := w) w.heap.size rfl (.tmp 26) (.tmp 27) 22 rfl Tryd.underlying22 info5 u3 x3_1 39 (fun _ => True) rfl rfl ?aO ?aF ?aB ?aS ?aL ?_; (case aB => exact (bwA)); (case aF => exact (fun _ _ => trivial)); (case aO => exact (by (with_reducible repeat (first | apply HxR.alloc | apply HxR.drewN | apply HxR.drew)); exact HO_3.out)); (case aS => exact (below_size (bwA))); (case aL => have := LMc104.out; omega); intro v192 w201 ho hb; rw [← Ny191.out] at ho; have n0_ := Aside0.mk (hb); have n1_ := Aside0.mk (ho); clear HB; clear HO_3; have HB := n0_; have HO193 := n1_; clear n0_ n1_; clear ho hb; have hcv202 := own_string (P := Tryd.prog) Tryd.underlying22 Tryd.underlying5 Tryd.underlying9 (Kd.own_of_R HO193.out)))
    go_ret
    exact ⟨endA, bwA⟩
/-! ### value_Show: function 12 -/
def value_Show.f (k : Nat) (a0_0 : Int) (a0_1 : Int) (a0_2 : ByteArray) : Option (ByteArray) := (value_Check.f a0_0 a0_1 a0_2).bind fun t195 => (if t195 = true then (if a0_0 = 1 then ((strconv_Itoa.f a0_1).bind fun t196 => (some t196)) else (if a0_0 = 2 then ((value_quoted.f a0_2).bind fun t197 => (some t197)) else (if a0_0 = 3 then ((strconv_FormatBool_19.f (a0_1 == 1)).bind fun t198 => (some t198)) else ((value_hexed.f k a0_2).bind fun t199 => (some t199))))) else (some (⟨#[]⟩ : ByteArray)))
theorem value_Show.mono : ∀ a0 a1 a2 k, LeO (value_Show.f k a0 a1 a2) (value_Show.f (k + 1) a0 a1 a2) := by
 intro a0 a1 a2 k
 unfold value_Show.f
 repeat' (with_reducible first | exact value_hexed.mono _ _ | exact LeO.refl _ | exact LeO.none _ | refine LeO.ite ?_ ?_ | refine LeO.bind ?_ (fun _ => ?_))
set_option maxHeartbeats 8000000 in
set_option maxRecDepth 100000 in
theorem value_Show.calls (k : Nat) (a0_0 : Int) (a0_1 : Int) (a0_2 : ByteArray) (r : ByteArray) (w : World) (hT : Tabs w) (h : value_Show.f k a0_0 a0_1 a0_2 = some r) :
  Calls Tryd.prog 12 #[.agg #[.int .i64 a0_0, .int .i64 a0_1, .string a0_2]] w fun e w' => e = .returned (.string r) ∧ Below w.heap.size w w' := by
 have hu26 := Tryd.underlying26
 have HB := Aside0.mk (Below.refl w.heap.size w)
 unfold value_Show.f at h
 have H := h
 clear h
 have HT := Aside0.mk hT
 clear hT
 replace H := bnA H
 obtain ⟨t195, A2, H⟩ := H
 revert H; refine itR ?L7p ?L7n
 case' L7p =>
  intro c3 H
  subst c3
  revert H; refine itQ ?L8p ?L8n
  case' L8p =>
   rintro ⟨c4b0, c4b1⟩ H
   replace H := bnA H
   obtain ⟨t196, A5, H⟩ := H
   obtain rfl := Option.some.inj H
   have M1 := True.intro
   have M2 := True.intro
  case' L8n =>
   rintro ⟨c4b0, c4b1⟩ c4 H
   revert H; refine itQ ?L9p ?L9n
   case' L9p =>
    rintro ⟨c5b0, c5b1⟩ H
    replace H := bnA H
    obtain ⟨t197, A6, H⟩ := H
    obtain rfl := Option.some.inj H
    have M1 := True.intro
    have M3 := True.intro
   case' L9n =>
    rintro ⟨c5b0, c5b1⟩ c5 H
    revert H; refine itQ ?L10p ?L10n
    case' L10p =>
     rintro ⟨c6b0, c6b1⟩ H
     replace H := bnA H
     obtain ⟨t198, A7, H⟩ := H
     obtain rfl := Option.some.inj H
     have M1 := True.intro
     have M4 := True.intro
    case' L10n =>
     rintro ⟨c6b0, c6b1⟩ c6 H
     replace H := bnA H
     obtain ⟨t199, A7, H⟩ := H
     obtain rfl := Option.some.inj H
     have M1 := True.intro
     have M5 := True.intro
 case' L7n =>
  intro c3 H
  replace c3 := Bool.eq_false_iff.mpr c3
  subst c3
  obtain rfl := Option.some.inj H
  have M6 := True.intro
 all_goals
  case _ =>
   go_enter Tryd.func12, Tryd.ntmps12
   go_wp2_with (first | ((with_reducible refine gate_dst (N := 1) rfl ?_); refine boxB 1 #[.int .i64 a0_0, .int .i64 a0_1, .string a0_2] 26 HB ?_; clear HB; intro gb194 w101 BK194 GW194 GE194 HB; obtain ⟨hcz102_0, hcz102_1, hcz102_2⟩ := cel3 BK194.out; obtain ⟨hfz102_0, hfz102_1, hfz102_2⟩ := frz3 BK194.out) | ((with_reducible refine gate_callee (f := 10) rfl ?_); refine goesA (some 4) Tryd.func10 #[.agg #[.int .i64 a0_0, .int .i64 a0_1, .string a0_2]] ?_; (with_reducible refine (value_Check.calls _ _ _ _ _ ?side1 A2.out).mono ?_); (case side1 => exact Tabs.below HT.out (bwA)); rintro e w103 ⟨rfl, hb⟩; refine ⟨_, rfl, ?_⟩; replace BK194 := Aside0.mk (bkB BK194 hb); replace HB := Aside0.mk (below_step (bwA) hb); (try clear hb); apply stopA; (case other => exact True.intro)))
   case _ =>
    first
     | clear M1
       obtain ⟨hcz104_0, hcz104_1, hcz104_2⟩ := cel3 BK194.out
       obtain ⟨hfz104_0, hfz104_1, hfz104_2⟩ := frz3 BK194.out
       first
        | clear M2
          try go_wp2_with (first | ((with_reducible refine gate_callee (f := 17) rfl ?_); refine goesA (some 12) Tryd.func17 #[.int .i64 a0_1] ?_; (with_reducible refine (strconv_Itoa.calls _ _ _ ?side1 A5.out).mono ?_); (case side1 => exact Tabs.below HT.out (bwA)); rintro e w105 ⟨rfl, hb⟩; refine ⟨_, rfl, ?_⟩; replace BK194 := Aside0.mk (bkB BK194 hb); replace HB := Aside0.mk (below_step (bwA) hb); (try clear hb)))
          go_ret
          exact ⟨endA, bwA⟩
        | clear M3
          try go_wp2_with (first | ((with_reducible refine gate_callee (f := 18) rfl ?_); refine goesA (some 17) Tryd.func18 #[.string a0_2] ?_; (with_reducible refine (value_quoted.calls _ _ _ ?side1 A6.out).mono ?_); (case side1 => exact Tabs.below HT.out (bwA)); rintro e w105 ⟨rfl, hb⟩; refine ⟨_, rfl, ?_⟩; replace BK194 := Aside0.mk (bkB BK194 hb); replace HB := Aside0.mk (below_step (bwA) hb); (try clear hb)))
          go_ret
          exact ⟨endA, bwA⟩
        | clear M4
          try go_wp2_with (first | ((with_reducible refine gate_callee (f := 19) rfl ?_); refine goesA (some 23) Tryd.func19 #[.bool (a0_1 == 1)] ?_; (with_reducible refine (strconv_FormatBool_19.calls _ _ _ A7.out).mono ?_); rintro e w' ⟨rfl, ⟨nd, rfl⟩⟩; refine ⟨_, rfl, ?_⟩))
          go_ret
          exact ⟨endA, bwA⟩
        | clear M5
          try go_wp2_with (first | ((with_reducible refine gate_callee (f := 20) rfl ?_); refine goesA (some 26) Tryd.func20 #[.string a0_2] ?_; (with_reducible refine (value_hexed.calls _ _ _ _ A7.out).mono ?_); rintro e w105 ⟨rfl, hb⟩; refine ⟨_, rfl, ?_⟩; replace BK194 := Aside0.mk (bkB BK194 hb); replace HB := Aside0.mk (below_step (bwA) hb); (try clear hb)))
          go_ret
          exact ⟨endA, bwA⟩
     | clear M6
       (try go_wp2_with (fail))
       go_ret
       exact ⟨endA, bwA⟩
end Go.Proofs.YtlejenoibblhnaaDoor.A
