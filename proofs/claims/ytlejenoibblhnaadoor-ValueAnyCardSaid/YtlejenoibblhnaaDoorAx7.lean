-- By drv.py, the session's own driver round the kit's print: the machine's side of the laws, function by function. Not trusted: Lean checks it.
import Derived.Test.YtlejenoibblhnaaDoorAx0
import Derived.Test.YtlejenoibblhnaaDoorAx2
namespace Go.Proofs.YtlejenoibblhnaaDoor.A
open Go.RowKit Go.Proofs.YtlejenoibblhnaaDoorW.PrintWords Go.Proofs.YtlejenoibblhnaaDoorW.PrintLast Go.Proofs.YtlejenoibblhnaaDoorW.PrintMore
attribute [local go_sem] max2_int min2_int max_two min_two max_three min_three max_four min_four   -- for this text's walks alone
set_option linter.unusedVariables false
set_option linter.unusedSimpArgs false

/-! ### stringslite_TrimPrefix: function 53 -/
def stringslite_TrimPrefix.f (a0 : ByteArray) (a1 : ByteArray) : Option (ByteArray) := (stringslite_HasPrefix.f a0 a1).bind fun t122 => (if t122 = true then (if 0 ≤ (a1.size : Int) then (if (a1.size : Int) ≤ (a0.size : Int) then (some (a0.extract ((a1.size : Int) : Int).toNat a0.size)) else (none)) else (none)) else (some a0))
set_option maxHeartbeats 8000000 in
set_option maxRecDepth 100000 in
theorem stringslite_TrimPrefix.calls (a0 : ByteArray) (a1 : ByteArray) (r : ByteArray) (w : World) (h : stringslite_TrimPrefix.f a0 a1 = some r) :
  Calls Tryd.prog 53 #[.string a0, .string a1] w fun e w' => e = .returned (.string r) ∧ Drawn0 w w' := by
 unfold stringslite_TrimPrefix.f at h
 have H := h
 clear h
 replace H := bnA H
 obtain ⟨t122, A3, H⟩ := H
 revert H; refine itR ?L1p ?L1n
 case' L1p =>
  intro c4 H
  subst c4
  replace H := itN H
  obtain ⟨c5, H⟩ := H
  have c5b0 := eq_true c5
  have c5b1 := decide_eq_true c5
  clear c5
  replace H := itN H
  obtain ⟨c6, H⟩ := H
  have c6b0 := eq_true c6
  have c6b1 := decide_eq_true c6
  clear c6
  obtain rfl := Option.some.inj H
 case' L1n =>
  intro c4 H
  replace c4 := Bool.eq_false_iff.mpr c4
  subst c4
  obtain rfl := Option.some.inj H
 all_goals
  case _ =>
   go_enter Tryd.func53, Tryd.ntmps53
   try go_wp2_with (first | ((with_reducible refine gate_callee (f := 38) rfl ?_); refine goesA (some 7) Tryd.func38 #[.string a0, .string a1] ?_; (with_reducible refine (stringslite_HasPrefix.calls _ _ _ _ A3.out).mono ?_); rintro e w' ⟨rfl, ⟨nd, rfl⟩⟩; refine ⟨_, rfl, ?_⟩))
   go_ret
   exact ⟨endS, drA⟩
/-! ### strings_TrimPrefix: function 40 -/
def strings_TrimPrefix.f (a0 : ByteArray) (a1 : ByteArray) : Option (ByteArray) := (stringslite_TrimPrefix.f a0 a1).bind fun t123 => (some t123)
set_option maxHeartbeats 8000000 in
set_option maxRecDepth 100000 in
theorem strings_TrimPrefix.calls (a0 : ByteArray) (a1 : ByteArray) (r : ByteArray) (w : World) (h : strings_TrimPrefix.f a0 a1 = some r) :
  Calls Tryd.prog 40 #[.string a0, .string a1] w fun e w' => e = .returned (.string r) ∧ Drawn0 w w' := by
 unfold strings_TrimPrefix.f at h
 have H := h
 clear h
 replace H := Option.bind_eq_some_iff.mp H
 obtain ⟨t123, A30, H⟩ := H
 replace H : (some t123) = some r := H
 have A3 := Aside0.mk A30
 clear A30
 obtain rfl := Option.some.inj H
 go_enter Tryd.func40, Tryd.ntmps40
 go_wp2_with (first | ((with_reducible refine gate_callee (f := 53) rfl ?_); refine goesA (some 7) Tryd.func53 #[.string a0, .string a1] ?_; (with_reducible refine (stringslite_TrimPrefix.calls a0 a1 t123 _ A3.out).mono ?_); rintro e w' ⟨rfl, ⟨nd, rfl⟩⟩; refine ⟨_, rfl, ?_⟩))
 go_ret
 exact ⟨endS, drA⟩

/-! ### value_digits: function 41 -/
def value_digits.l0 : Nat → ByteArray → Int → Option (Int)
 | 0, _, _ => none
 | k + 1, x0, x3 => if x3 < (x0.size : Int) then (if 0 ≤ x3 then (if (bt x0 x3) ≥ 48 then (if (bt x0 x3) ≤ 57 then (value_digits.l0 k x0 (wrap64 (x3 + 1))) else (some x3)) else (some x3)) else (none)) else (some x3)
def value_digits.f (k : Nat) (a0 : ByteArray) : Option (Int) := value_digits.l0 k a0 0
theorem value_digits.mono_l : ∀ k, (∀ y0 y1, LeO (value_digits.l0 k y0 y1) (value_digits.l0 (k + 1) y0 y1))
 | 0 => fun _ _ r h => by simp [value_digits.l0] at h
 | k + 1 => by
  have ih0 := value_digits.mono_l k
  ·intro y0 y1
   unfold value_digits.l0
   repeat' (with_reducible first | exact ih0 _ _ | exact LeO.refl _ | exact LeO.none _ | refine LeO.ite ?_ ?_ | refine LeO.bind ?_ (fun _ => ?_))
theorem value_digits.mono : ∀ a0 k, LeO (value_digits.f k a0) (value_digits.f (k + 1) a0) := by
 intro a0 k
 have ih0 := value_digits.mono_l k
 unfold value_digits.f
 repeat' (with_reducible first | exact ih0 _ _ | exact LeO.refl _ | exact LeO.none _ | refine LeO.ite ?_ ?_ | refine LeO.bind ?_ (fun _ => ?_))
set_option maxHeartbeats 8000000 in
set_option maxRecDepth 100000 in
theorem value_digits.calls (k : Nat) (a0 : ByteArray) (r : Int) (w : World) (h : value_digits.f k a0 = some r) :
  Calls Tryd.prog 41 #[.string a0] w fun e w' => e = .returned (.int .i64 r) ∧ Drawn0 w w' := by
 unfold value_digits.f at h
 have H := h
 clear h
 have H' := Aside0.mk H
 clear H
 go_enter Tryd.func41, Tryd.ntmps41
 go_wp2
 go_loopg [3] k (fun kq v3 w' => ∃ (x3_1 : Int), v3 = .int .i64 x3_1 ∧ Aside0 (value_digits.l0 kq a0 x3_1 = some r) ∧ Aside0 (kq ≤ k) ∧ Drawn0 w w')
 case atStart => exact ⟨(0), (endS), H', ⟨Nat.le_refl _⟩, drA⟩
 case round =>
  clear H'
  try clear p2
  try clear c4
  try clear c41
  obtain ⟨x3_1, rfl, HA, HK1, ⟨m1, rfl⟩⟩ := hrel
  cases gk with
  | zero => exact absurd HA.out (by simp [value_digits.l0])
  | succ k1 =>
   have H := HA.out
   clear HA
   simp only [value_digits.l0] at H
   revert H; refine itR ?L5p ?L5n
   case' L5p =>
    intro c101 H
    have c101b0 := decide_eq_true c101
    clear c101
    replace H := itN H
    obtain ⟨c102, H⟩ := H
    have c102b0 := decide_eq_true c102
    clear c102
    revert H; refine itR ?L6p ?L6n
    case' L6p =>
     intro c104 H
     have c104b0 := geT c104
     clear c104
     revert H; refine itR ?L7p ?L7n
     case' L7p =>
      intro c106 H
      have c106b0 := decide_eq_true c106
      clear c106
      have H' := Aside0.mk H
      clear H
      have M1 := True.intro
      have M2 := True.intro
     case' L7n =>
      intro c106 H
      have c106b0 := decide_eq_false c106
      clear c106
      obtain rfl := Option.some.inj H
      have M1 := True.intro
      have M3 := True.intro
    case' L6n =>
     intro c104 H
     have c104b0 := geF c104
     clear c104
     obtain rfl := Option.some.inj H
     have M4 := True.intro
   case' L5n =>
    intro c101 H
    have c101b0 := decide_eq_false c101
    clear c101
    obtain rfl := Option.some.inj H
    go_wp2
    go_ret
    exact ⟨endS, drA⟩
   all_goals
    case _ =>
     have p103 : 0 ≤ (x3_1 : Int) := odA
     have q103 : x3_1 < (a0.size : Int) := odA
     have hx103 := bt_at a0 x3_1
     replace p103 := eq_true p103
     replace q103 := eq_true q103
     first
      | clear M1
        have p105 : 0 ≤ (x3_1 : Int) := odA
        have q105 : x3_1 < (a0.size : Int) := odA
        have hx105 := bt_at a0 x3_1
        replace p105 := eq_true p105
        replace q105 := eq_true q105
        go_wp2
        first
         | clear M2
           go_roundg k1
           case measure => have := HK1.out; omega
           case rel => exact ⟨(wrap64 (x3_1 + 1)), (endS), H', ⟨by have := HK1.out; omega⟩, drA⟩
         | clear M3
           go_ret
           exact ⟨endS, drA⟩
      | clear M4
        go_wp2
        go_ret
        exact ⟨endS, drA⟩
/-! ### strconv_Atoi: function 42, by hand -/
def strconv_Atoi.f (a0 : ByteArray) : Option (Int × Option Int) := if a0.size ≤ 18 then (Lib.atoi a0.data.toList).map fun n => (n, none) else none
theorem strconv_Atoi.calls (a0 : ByteArray) (r1 : Int) (r2 : Option Int) (w : World) (h : strconv_Atoi.f a0 = some (r1, r2)) :
  Calls Tryd.prog 42 #[.string a0] w fun e w' => e = .returned (.tuple #[.int .i64 r1, errW r2]) ∧ Below w.heap.size w w' := by
 unfold strconv_Atoi.f at h
 split at h
 ·rename_i hs
  obtain ⟨n, hn, he⟩ := Option.map_eq_some_iff.1 h
  simp only [Prod.mk.injEq] at he
  obtain ⟨rfl, rfl⟩ := he
  refine (Tryd.strconv_Atoi a0 n hs hn w).mono ?_
  rintro e w' ⟨he, t, rfl⟩
  exact ⟨he, Lib.bytesWorld_below w 5 t⟩
 ·cases h

/-! ### value_integer: function 26 -/
def value_integer.j0 : Nat → ByteArray → Int → Int → Bool → Option (Int × Int × ByteArray × ByteArray × Int)
 | 0, _, _, _, _ => none
 | k + 1, x0, x6, x7, x21 => if x21 = true then (some (0, 0, (⟨#[]⟩ : ByteArray), (⟨#[]⟩ : ByteArray), 3)) else (if x6 > 16 then (some (0, 0, (⟨#[]⟩ : ByteArray), (⟨#[]⟩ : ByteArray), 2)) else (if 0 ≤ x7 then (if x7 ≤ (x0.size : Int) then ((strconv_Atoi.f (x0.extract 0 (x7 : Int).toNat)).bind fun bt127 => (if bt127.1 > 9007199254740991 then (some (0, 0, (⟨#[]⟩ : ByteArray), (⟨#[]⟩ : ByteArray), 2)) else (if bt127.1 < (-9007199254740991) then (some (0, 0, (⟨#[]⟩ : ByteArray), (⟨#[]⟩ : ByteArray), 2)) else (some (1, bt127.1, (⟨#[]⟩ : ByteArray), x0.extract (x7 : Int).toNat x0.size, 0))))) else (none)) else (none)))
def value_integer.f (k : Nat) (a0 : ByteArray) : Option (Int × Int × ByteArray × ByteArray × Int) := (strings_TrimPrefix.f a0 (⟨#[45]⟩ : ByteArray)).bind fun t125 => ((value_digits.f k t125).bind fun t126 => (if t126 = 0 then (value_integer.j0 k a0 t126 (wrap64 ((wrap64 ((a0.size : Int) - (t125.size : Int))) + t126)) true) else (if 0 < (t125.size : Int) then (if (bt t125 0) = 48 then (if t126 > 1 then (value_integer.j0 k a0 t126 (wrap64 ((wrap64 ((a0.size : Int) - (t125.size : Int))) + t126)) true) else (value_integer.j0 k a0 t126 (wrap64 ((wrap64 ((a0.size : Int) - (t125.size : Int))) + t126)) (decide ((t125.size : Int) < (a0.size : Int))))) else (value_integer.j0 k a0 t126 (wrap64 ((wrap64 ((a0.size : Int) - (t125.size : Int))) + t126)) false)) else (none))))
theorem value_integer.mono_l : ∀ k, (∀ y0 y1 y2 y3, LeO (value_integer.j0 k y0 y1 y2 y3) (value_integer.j0 (k + 1) y0 y1 y2 y3))
 | 0 => fun _ _ _ _ r h => by simp [value_integer.j0] at h
 | k + 1 => by
  have ih0 := value_integer.mono_l k
  ·intro y0 y1 y2 y3
   unfold value_integer.j0
   repeat' (with_reducible first | exact ih0 _ _ _ _ | exact value_digits.mono _ _ | exact LeO.refl _ | exact LeO.none _ | refine LeO.ite ?_ ?_ | refine LeO.bind ?_ (fun _ => ?_))
theorem value_integer.mono : ∀ a0 k, LeO (value_integer.f k a0) (value_integer.f (k + 1) a0) := by
 intro a0 k
 have ih0 := value_integer.mono_l k
 unfold value_integer.f
 repeat' (with_reducible first | exact ih0 _ _ _ _ | exact value_digits.mono _ _ | exact LeO.refl _ | exact LeO.none _ | refine LeO.ite ?_ ?_ | refine LeO.bind ?_ (fun _ => ?_))
def value_integer.T11 : Bool × List (List Nat × List Nat) := (true, [([], []), ([0], [0]), ([], []), ([], []), ([2, 3], [2, 3]), ([1, 0, 1], [1]), ([4, 5, 0, 1, 2, 3, 4, 5], [4]), ([6, 0, 1, 2, 3, 4, 5, 6], [])])
def value_integer.B11 : List Nat := [0, 1, 0, 0, 12, 3, 63, 127]
theorem value_integer.tab11 : rtab .any (opsOf Tryd.f26 11) = value_integer.T11 := by kernel_rfl
theorem value_integer.bits11 : waitsOk value_integer.T11.2 value_integer.B11 = true := by kernel_rfl
set_option maxHeartbeats 8000000 in
set_option maxRecDepth 100000 in
theorem value_integer.calls (k : Nat) (a0 : ByteArray) (r1 : Int) (r2 : Int) (r3 : ByteArray) (r4 : ByteArray) (r5 : Int) (w : World) (h : value_integer.f k a0 = some (r1, r2, r3, r4, r5)) :
  Calls Tryd.prog 26 #[.string a0] w fun e w' => e = .returned (.tuple #[.agg #[.int .i64 r1, .int .i64 r2, .string r3], .string r4, .int .i64 r5]) ∧ Below w.heap.size w w' := by
 have hu26 := Tryd.underlying26
 have HB := Aside0.mk (Below.refl w.heap.size w)
 unfold value_integer.f at h
 have H := h
 clear h
 replace H := bnA H
 obtain ⟨t125, A2, H⟩ := H
 replace H := bnA H
 obtain ⟨t126, A3, H⟩ := H
 have HC101 := Aside0.mk H
 clear H
 go_enter Tryd.func26, Tryd.ntmps26
 go_upto_region 4 with (first | ((with_reducible refine gate_dst (N := 2) rfl ?_); (try (refine gate_guard (by rfl) ?_; dsimp only)); refine boxA 2 #[.int .i64 0, .int .i64 0, .string (⟨#[]⟩ : ByteArray)] 26 ?_; intro gb124 hg w102 hbox hb; have n0_ := Aside0.mk (below_step (bwA) hb); have n1_ := Aside0.mk (hbox); have n2_ := Aside0.mk (hgW hg : w.heap.size ≤ gb124); have n3_ := Aside0.mk (hgW hg : w.heap.size ≤ gb124); clear HB; have HB := n0_; have BK124 := n1_; have GW124 := n2_; have GE124 := n3_; clear n0_ n1_ n2_ n3_; clear hb hbox hg) | ((with_reducible refine gate_callee (f := 40) rfl ?_); refine goesA (some 11) Tryd.func40 #[.string a0, .string (⟨#[45]⟩ : ByteArray)] ?_; (with_reducible refine (strings_TrimPrefix.calls _ _ _ _ A2.out).mono ?_); rintro e w' ⟨rfl, ⟨nd, rfl⟩⟩; refine ⟨_, rfl, ?_⟩) | ((with_reducible refine gate_callee (f := 41) rfl ?_); refine goesA (some 13) Tryd.func41 #[.string t125] ?_; (with_reducible refine (value_digits.calls k t125 t126 _ A3.out).mono ?_); rintro e w' ⟨rfl, ⟨nd, rfl⟩⟩; refine ⟨_, rfl, ?_⟩))
 (try simp only [Act.put, List.setIfInBounds_toArray, List.set_cons_zero, List.set_cons_succ])
 go_cut [21] (fun v21 wc => ∃ (kq : Nat) (x21_100 : Bool), v21 = .bool x21_100 ∧ Aside0 (value_integer.j0 kq a0 t126 (wrap64 ((wrap64 ((a0.size : Int) - (t125.size : Int))) + t126)) x21_100 = some (r1, r2, r3, r4, r5)) ∧ Aside0 (kq ≤ k) ∧ Aside0 (wc.heap[gb124]? = some (.cells #[.int .i64 0, .int .i64 0, .string (⟨#[]⟩ : ByteArray)] 26 (0, 0))) ∧ Aside0 (Below w.heap.size w wc))
 case first =>
  have H := HC101.out
  clear HC101
  revert H; refine itQ ?L4p ?L4n
  case' L4p =>
   rintro ⟨c103b0, c103b1⟩ H
   (first | rw [c103b0] | (simp only [i64_w, i32_w]; rw [c103b0]) | skip)
   have H' := Aside0.mk H
   clear H
   go_wp2
   go_meet
   case rel => exact ⟨_, (true), (endS), H', ⟨by first | omega | exact Nat.le_refl _⟩, ⟨blkZ⟩, ⟨bwA⟩⟩
  case' L4n =>
   rintro ⟨c103b0, c103b1⟩ c103 H
   (first | rw [c103b0] | (simp only [i64_w, i32_w]; rw [c103b0]) | skip)
   replace H := itN H
   obtain ⟨c104, H⟩ := H
   have c104b0 := decide_eq_true c104
   have c104b1 : decide (0 < t125.size) = true := decide_eq_true (by omega)
   clear c104
   revert H; refine itQ ?L5p ?L5n
   case' L5p =>
    rintro ⟨c106b0, c106b1⟩ H
    revert H; refine itR ?L6p ?L6n
    case' L6p =>
     intro c107 H
     have c107b0 := gtT c107
     clear c107
     have H' := Aside0.mk H
     clear H
     have M1 := True.intro
    case' L6n =>
     intro c107 H
     have c107b0 := gtF c107
     clear c107
     have H' := Aside0.mk H
     clear H
     have M2 := True.intro
   case' L5n =>
    rintro ⟨c106b0, c106b1⟩ c106 H
    have H' := Aside0.mk H
    clear H
    have M3 := True.intro
  all_goals
   case _ =>
    have p105 : 0 ≤ (0 : Int) := (by omega)
    have q105 : 0 < t125.size := (by have : (0 : Int) < (t125.size : Int) := odA; omega)
    have hx105 : ∀ h : 0 < t125.size, ((t125[0]'h).toNat : Int) = bt t125 0 := bt_at t125 0
    clear p105
    have qi105 : (0 < (t125.size : Int)) = True := eq_true (odA)
    replace q105 := eq_true q105
    go_wp2
    go_meet
    first
     | clear M1
       case rel => exact ⟨_, (true), (endS), H', ⟨by first | omega | exact Nat.le_refl _⟩, ⟨blkZ⟩, ⟨bwA⟩⟩
     | clear M2
       case rel => exact ⟨_, (decide ((t125.size : Int) < (a0.size : Int))), (endS), H', ⟨by first | omega | exact Nat.le_refl _⟩, ⟨blkZ⟩, ⟨bwA⟩⟩
     | clear M3
       case rel => exact ⟨_, (false), (endS), H', ⟨by first | omega | exact Nat.le_refl _⟩, ⟨blkZ⟩, ⟨bwA⟩⟩
 case rest =>
  clear HC101
  try clear c1
  try clear p1
  try clear q1
  try clear hx1
  try clear qi1
  try clear c2
  try clear p2
  try clear c4
  try clear p6
  try clear c10
  try clear p10
  try clear q10
  try clear hx10
  try clear qi10
  try clear c26
  try clear c40
  try clear c41
  try clear p64
  try clear p105
  try clear q105
  obtain ⟨kq, x21_100, rfl, HA, HJ100, BK124, HB⟩ := hcut
  cases kq with
  | zero => exact absurd HA.out (by simp [value_integer.j0])
  | succ kj100 =>
   have H := HA.out
   clear HA
   simp only [value_integer.j0] at H
   revert H; refine itR ?L11p ?L11n
   case' L11p =>
    intro c103 H
    subst c103
    obtain ⟨rfl, rfl, rfl, rfl, rfl⟩ := sJ5 H
    have M7 := True.intro
   case' L11n =>
    intro c103 H
    replace c103 := Bool.eq_false_iff.mpr c103
    subst c103
    revert H; refine itR ?L12p ?L12n
    case' L12p =>
     intro c104 H
     have c104b0 := gtT c104
     clear c104
     obtain ⟨rfl, rfl, rfl, rfl, rfl⟩ := sJ5 H
     have M7 := True.intro
    case' L12n =>
     intro c104 H
     have c104b0 := gtF c104
     clear c104
     obtain ⟨ji105, hji105⟩ : ∃ j_ : Int, (wrap64 ((wrap64 ((a0.size : Int) - (t125.size : Int))) + t126)) = j_ := ⟨_, rfl⟩
     replace H : (if 0 ≤ (ji105) then (if (ji105) ≤ (a0.size : Int) then ((strconv_Atoi.f (a0.extract 0 ((ji105) : Int).toNat)).bind fun bt127 => (if bt127.1 > 9007199254740991 then (some (0, 0, (⟨#[]⟩ : ByteArray), (⟨#[]⟩ : ByteArray), 2)) else (if bt127.1 < (-9007199254740991) then (some (0, 0, (⟨#[]⟩ : ByteArray), (⟨#[]⟩ : ByteArray), 2)) else (some (1, bt127.1, (⟨#[]⟩ : ByteArray), a0.extract ((ji105) : Int).toNat a0.size, 0))))) else (none)) else (none)) = some (r1, r2, r3, r4, r5) := by first | (rw [hji105] at H; exact H) | (simp only [hji105] at H ⊢; exact H)
     have hji105w : (IntKind.i64.wrap ((wrap64 ((a0.size : Int) - (t125.size : Int))) + t126)) = ji105 := (i64_w _).trans hji105
     replace H := itN H
     obtain ⟨c106, H⟩ := H
     have c106b0 := eq_true c106
     have c106b1 := decide_eq_true c106
     clear c106
     replace H := itN H
     obtain ⟨c107, H⟩ := H
     have c107b0 := eq_true c107
     have c107b1 := decide_eq_true c107
     clear c107
     replace H := bnA H
     obtain ⟨⟨t127, t128⟩, A108, H⟩ := H
     dsimp only at H
     revert H; refine itR ?L13p ?L13n
     case' L13p =>
      intro c109 H
      have c109b0 := gtT c109
      clear c109
      obtain ⟨rfl, rfl, rfl, rfl, rfl⟩ := sJ5 H
      have M8 := True.intro
      have M9 := True.intro
     case' L13n =>
      intro c109 H
      have c109b0 := gtF c109
      clear c109
      revert H; refine itR ?L14p ?L14n
      case' L14p =>
       intro c110 H
       have c110b0 := decide_eq_true c110
       clear c110
       obtain ⟨rfl, rfl, rfl, rfl, rfl⟩ := sJ5 H
       have M8 := True.intro
       have M9 := True.intro
      case' L14n =>
       intro c110 H
       have c110b0 := decide_eq_false c110
       clear c110
       have c111b0 := eq_true (odA : 0 ≤ (ji105))
       have c112b0 := eq_true (odA : (ji105) ≤ (a0.size : Int))
       obtain ⟨rfl, rfl, rfl, rfl, rfl⟩ := sJ5 H
       have M8 := True.intro
       have M10 := True.intro
   all_goals
    case _ =>
     first
      | clear M7
        obtain ⟨hcz201_0, hcz201_1, hcz201_2⟩ := cel3 BK124.out
        obtain ⟨hfz201_0, hfz201_1, hfz201_2⟩ := frz3 BK124.out
        go_wp2
        refine bodyPost_ret (results_ctt rfl _ _ gb124 26 #[.int .i64 0, .int .i64 0, .string (⟨#[]⟩ : ByteArray)] (0, 0) _ rfl blkZ Tryd.underlying26 rfl (by kernel_rfl)) rfl ?_
        exact ⟨endA, bwA⟩
      | clear M8
        go_wp2_with (first | ((with_reducible refine gate_callee (f := 42) rfl ?_); refine goesL_ (some 49) rfl rfl Tryd.func42 (by kernel_rfl) rfl #[.string (a0.extract 0 ((ji105) : Int).toNat)] rfl (by (try simp only [List.map_toArray, List.map_cons, List.map_nil]); first | done | (simp only [hji105]; rfl) | rfl | (simp only [List.length_drop, List.length_take]; rfl)) ?_; (with_reducible refine (strconv_Atoi.calls _ _ _ _ A108.out).mono ?_); rintro e w201 ⟨rfl, hb⟩; refine ⟨_, rfl, ?_⟩; replace BK124 := Aside0.mk (bkB BK124 hb); replace HB := Aside0.mk (below_step (bwA) hb); (try clear hb); (try simp only [errW_none, errW_some]); apply stopA; (case other => exact True.intro)))
        case _ =>
         first
          | clear M9
            obtain ⟨hcz202_0, hcz202_1, hcz202_2⟩ := cel3 BK124.out
            obtain ⟨hfz202_0, hfz202_1, hfz202_2⟩ := frz3 BK124.out
            (try go_wp2_with (fail))
            refine bodyPost_ret (results_ctt rfl _ _ gb124 26 #[.int .i64 0, .int .i64 0, .string (⟨#[]⟩ : ByteArray)] (0, 0) _ rfl blkZ Tryd.underlying26 rfl (by kernel_rfl)) rfl ?_
            exact ⟨by first | rfl | (rw [ne_nil_b]; (first | done | rfl)) | (simp [errW_none, errW_some] <;> rfl) | (simp only [← hji105]; first | rfl | (simp [errW_none, errW_some] <;> rfl)) | (simp [*, errW_none, errW_some] <;> rfl), bwA⟩
          | clear M10
            (try go_wp2_with (fail))
            replace BK124 := Aside0.mk (blk_drew BK124.out)
            replace HB := Aside0.mk (below_drew1 HB.out)
            refine start_ (n := 8) (S := fun w' => True) (ds := []) (mkB 8 0) (by kernel_rfl) rfl rfl trivial (fun hHeld => ?_); refine with_tabW value_integer.tab11 value_integer.bits11 (fun HT_ HW_ => ?_)
            generalize w201.drew = w202 at BK124 HB hHeld ⊢
            refine pureA 0 (some 59) (mkB 8 1) ?_
            refine pureA 1 (some 60) (mkB 8 3) ?_
            refine pureA 2 (some 61) (mkB 8 7) ?_
            refine pureA 3 (some 62) (mkB 8 15) ?_
            refine pureA 4 (some 63) (mkB 8 31) ?_
            refine oneA 5 (none) (mkB 8 63) (fun K hK => ?_)
            have hs203 : w202.cell? ⟨gb124, 0, none⟩ = some (.int .i64 0) := (blk_cell BK124.out 0).trans rfl
            have hfs203 := blk_frozen BK124.out 0
            have hs204 : w202.cell? ⟨gb124, 1, none⟩ = some (.int .i64 0) := (blk_cell BK124.out 1).trans rfl
            have hfs204 := blk_frozen BK124.out 1
            have hs205 : w202.cell? ⟨gb124, 2, none⟩ = some (.string (⟨#[]⟩ : ByteArray)) := (blk_cell BK124.out 2).trans rfl
            have hfs205 := blk_frozen BK124.out 2
            refine skip_ (w1 := ?_) (by rfl) rfl ?_ ?_
            rotate_left
            ·go_simp
             rfl
            refine hK.out _ _ trivial (fun hHeld => ?_)
            clear hK K
            refine pureA 6 (some 3) (mkB 8 127) ?_
            refine pureA 7 (some 4) (mkB 8 255) ?_
            refine done_ (done_of HT_.out (by kernel_rfl)) ?_
            try go_wp2
            refine bodyPost_ret (results_ctt rfl _ _ gb124 26 #[.int .i64 1, .int .i64 t127, .string (⟨#[]⟩ : ByteArray)] (0, 0) _ rfl blkZ Tryd.underlying26 rfl (by kernel_rfl)) rfl ?_
            exact ⟨by first | rfl | (rw [ne_nil_b]; (first | done | rfl)) | (simp [errW_none, errW_some] <;> rfl) | (simp only [← hji105]; first | rfl | (simp [errW_none, errW_some] <;> rfl)) | (simp [*, errW_none, errW_some] <;> rfl), bwA⟩
end Go.Proofs.YtlejenoibblhnaaDoor.A
