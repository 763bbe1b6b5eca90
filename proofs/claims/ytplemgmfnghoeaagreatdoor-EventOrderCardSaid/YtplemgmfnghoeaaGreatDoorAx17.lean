-- By drv.py, the session's own driver round the kit's print: the machine's side of the laws, function by function. Not trusted: Lean checks it.
import Derived.Test.YtplemgmfnghoeaaGreatDoorAx0
import Derived.Test.YtplemgmfnghoeaaGreatDoorAx11
import Derived.Test.YtplemgmfnghoeaaGreatDoorAx15
import Derived.Test.YtplemgmfnghoeaaGreatDoorAx16
namespace Go.Proofs.YtplemgmfnghoeaaGreatDoor.A
open Go.RowKit Go.Proofs.YtplemgmfnghoeaaGreatDoorW.PrintWords Go.Proofs.YtplemgmfnghoeaaGreatDoorW.PrintLast Go.Proofs.YtplemgmfnghoeaaGreatDoorW.PrintMore
attribute [local go_sem] max2_int min2_int max_two min_two max_three min_three max_four min_four   -- for this text's walks alone
set_option linter.unusedVariables false
set_option linter.unusedSimpArgs false

/-! ### value_next: function 144 -/
mutual
def value_next.j0 : Nat → ByteArray → Int → Int → Bool → Option (Int × Int)
 | 0, _, _, _, _ => none
 | k + 1, x0, x4, x5, x16 => if x16 = true then (some (0, 0)) else (if x4 = 92 then (if 1 ≤ (x0.size : Int) then ((value_escaped.f k (x0.extract 1 x0.size)).bind fun bt211 => (if bt211.2 = 0 then (some (0, 0)) else (value_next.j1 k x0 bt211.1 (wrap64 (bt211.2 + 1))))) else (none)) else (value_next.j1 k x0 x4 x5))
def value_next.j1 : Nat → ByteArray → Int → Int → Option (Int × Int)
 | 0, _, _, _ => none
 | k + 1, x0, x4, x5 => (value_escape.f x4).bind fun t213 => ((strings_HasPrefix.f x0 t213).bind fun t214 => (if t214 = true then ((value_escape.f x4).bind fun t215 => (if (t215.size : Int) = x5 then (some (x4, x5)) else (some (0, 0)))) else (some (0, 0))))
end
def value_next.f (k : Nat) (a0 : ByteArray) : Option (Int × Int) := (utf8_DecodeRuneInString.f a0).bind fun bt209 => (if bt209.1 = 65533 then (value_next.j0 k a0 bt209.1 bt209.2 (decide (bt209.2 < 2))) else (value_next.j0 k a0 bt209.1 bt209.2 false))
theorem value_next.mono_l : ∀ k, (∀ y0 y1 y2 y3, LeO (value_next.j0 k y0 y1 y2 y3) (value_next.j0 (k + 1) y0 y1 y2 y3)) ∧ (∀ y0 y1 y2, LeO (value_next.j1 k y0 y1 y2) (value_next.j1 (k + 1) y0 y1 y2))
 | 0 => ⟨fun _ _ _ _ r h => by simp [value_next.j0] at h, fun _ _ _ r h => by simp [value_next.j1] at h⟩
 | k + 1 => by
  obtain ⟨ih0, ih1⟩ := value_next.mono_l k
  refine ⟨?_, ?_⟩
  all_goals intros
  all_goals first | unfold value_next.j0 | unfold value_next.j1
  all_goals repeat' first
   | (with_reducible exact ih0 _ _ _ _)
   | (with_reducible exact ih1 _ _ _)
   | (with_reducible exact value_escaped.mono _ _)
   | (with_reducible exact LeO.refl _)
   | (with_reducible exact LeO.none _)
   | (with_reducible refine LeO.ite ?_ ?_)
   | (with_reducible refine LeO.bind ?_ (fun _ => ?_))
   | exact ih0 _ _ _ _
   | exact ih1 _ _ _
   | exact value_escaped.mono _ _
   | exact LeO.none _
   | refine LeO.ite ?_ ?_
   | refine LeO.bind ?_ (fun _ => ?_)
theorem value_next.mono : ∀ a0 k, LeO (value_next.f k a0) (value_next.f (k + 1) a0) := by
 intro a0 k
 obtain ⟨ih0, ih1⟩ := value_next.mono_l k
 unfold value_next.f
 repeat' first
   | (with_reducible exact ih0 _ _ _ _)
   | (with_reducible exact ih1 _ _ _)
   | (with_reducible exact value_escaped.mono _ _)
   | (with_reducible exact LeO.refl _)
   | (with_reducible exact LeO.none _)
   | (with_reducible refine LeO.ite ?_ ?_)
   | (with_reducible refine LeO.bind ?_ (fun _ => ?_))
   | exact ih0 _ _ _ _
   | exact ih1 _ _ _
   | exact value_escaped.mono _ _
   | exact LeO.none _
   | refine LeO.ite ?_ ?_
   | refine LeO.bind ?_ (fun _ => ?_)
set_option maxHeartbeats 8000000 in
set_option maxRecDepth 100000 in
theorem value_next.calls (k : Nat) (a0 : ByteArray) (r1 : Int) (r2 : Int) (w : World) (hT : Tabs w) (h : value_next.f k a0 = some (r1, r2)) :
  Calls Tryz.prog 144 #[.string a0] w fun e w' => e = .returned (.tuple #[.int .i32 r1, .int .i64 r2]) ∧ Below w.heap.size w w' := by
 have HB := Aside0.mk (Below.refl w.heap.size w)
 have H : ((utf8_DecodeRuneInString.f a0).bind fun bt209 => (if bt209.1 = 65533 then (value_next.j0 k a0 bt209.1 bt209.2 (decide (bt209.2 < 2))) else (value_next.j0 k a0 bt209.1 bt209.2 false))) = some (r1, r2) := h
 clear h
 have HT := Aside0.mk hT
 clear hT
 replace H := Option.bind_eq_some_iff.mp H
 obtain ⟨⟨t209, t210⟩, A20, H⟩ := H
 replace H : (if t209 = 65533 then (value_next.j0 k a0 t209 t210 (decide (t210 < 2))) else (value_next.j0 k a0 t209 t210 false)) = some (r1, r2) := H
 have A2 := Aside0.mk A20
 clear A20
 have HC3 := Aside0.mk H
 clear H
 go_enter Tryz.func144, Tryz.ntmps144
 go_upto_region 2 with (first | ((with_reducible refine gate_callee (f := 154) rfl ?_); refine goesA (some 8) Tryz.func154 #[.string a0] ?_; (with_reducible refine (utf8_DecodeRuneInString.calls a0 t209 t210 _ ?side1 A2.out).mono ?_); (case side1 => exact Tabs.below HT.out (bwA)); rintro e w4 ⟨rfl, hb⟩; refine ⟨_, rfl, ?_⟩; have n0_ := Aside0.mk (below_step (bwA) hb); clear HB; have HB := n0_; clear n0_; (try clear hb); (try clear hb2); (try clear hk); (try clear hi)))
 (try simp only [Act.put, List.setIfInBounds_toArray, List.set_cons_zero, List.set_cons_succ])
 go_cut [16] (fun v16 wc => ∃ (kq : Nat) (x16_2 : Bool), v16 = .bool x16_2 ∧ Aside0 (value_next.j0 kq a0 t209 t210 x16_2 = some (r1, r2)) ∧ Aside0 (kq ≤ k) ∧ Aside0 (Below w.heap.size w wc))
 case first =>
  have H := HC3.out
  clear HC3
  by_cases c5 : t209 = 65533
  ·rw [if_pos c5] at H
   have c5b0 : (t209 == 65533) = true := beq_iff_eq.mpr c5
   have c5b1 : (t209 != 65533) = false := bne_eq_false_iff_eq.mpr c5
   clear c5
   (first | rw [c5b0] | (simp only [i64_w, i32_w]; rw [c5b0]) | skip)
   have H' := Aside0.mk H
   clear H
   go_wp2
   go_meet
   case rel => exact ⟨_, (decide (t210 < 2)), (endS), H', ⟨by first | omega | exact Nat.le_refl _⟩, ⟨bwA⟩⟩
  ·rw [if_neg c5] at H
   have c5b0 : (t209 == 65533) = false := beq_eq_false_iff_ne.mpr c5
   have c5b1 : (t209 != 65533) = true := bne_iff_ne.mpr c5
   (first | rw [c5b0] | (simp only [i64_w, i32_w]; rw [c5b0]) | skip)
   have H' := Aside0.mk H
   clear H
   go_wp2
   go_meet
   case rel => exact ⟨_, (false), (endS), H', ⟨by first | omega | exact Nat.le_refl _⟩, ⟨bwA⟩⟩
 case rest =>
  clear HC3
  try clear c1
  try clear p2
  try clear c5
  try clear c5b0
  try clear c5b1
  obtain ⟨kq, x16_2, rfl, HA, HJ2, HB⟩ := hcut
  cases kq with
  | zero => exact absurd HA.out (by simp [value_next.j0])
  | succ kj2 =>
   have H := HA.out
   clear HA
   simp only [value_next.j0] at H
   by_cases c6 : x16_2 = true
   ·subst c6
    have H1 : (some (0, 0)) = some (r1, r2) := by rw [if_pos rfl] at H; exact H
    clear H
    have H := H1
    clear H1
    simp only [Option.some.injEq, Prod.mk.injEq] at H
    obtain ⟨rfl, rfl⟩ := H
    go_wp2
    go_ret2
    exact ⟨endA, bwA⟩
   ·replace c6 := Bool.eq_false_iff.mpr c6
    subst c6
    have H1 : (if t209 = 92 then (if 1 ≤ (a0.size : Int) then ((value_escaped.f kj2 (a0.extract 1 a0.size)).bind fun bt211 => (if bt211.2 = 0 then (some (0, 0)) else (value_next.j1 kj2 a0 bt211.1 (wrap64 (bt211.2 + 1))))) else (none)) else (value_next.j1 kj2 a0 t209 t210)) = some (r1, r2) := by rw [if_neg (show ¬ (false = true) by decide)] at H; exact H
    clear H
    have H := H1
    clear H1
    have HC7 := Aside0.mk H
    clear H
    go_upto_if 18 with (fail)
    go_cut [4, 5] (fun v4 v5 wc => ∃ (kq : Nat) (x4_6 : Int) (x5_6 : Int), v4 = .int .i32 x4_6 ∧ v5 = .int .i64 x5_6 ∧ Aside0 (value_next.j1 kq a0 x4_6 x5_6 = some (r1, r2)) ∧ Aside0 (kq ≤ kj2) ∧ Aside0 (Below w.heap.size w wc))
    case first =>
     have H := HC7.out
     clear HC7
     by_cases c8 : t209 = 92
     ·rw [if_pos c8] at H
      have c8b0 : (t209 == 92) = true := beq_iff_eq.mpr c8
      have c8b1 : (t209 != 92) = false := bne_eq_false_iff_eq.mpr c8
      clear c8
      (first | rw [c8b0] | (simp only [i64_w, i32_w]; rw [c8b0]) | skip)
      by_cases c9 : 1 ≤ (a0.size : Int)
      ·rw [if_pos c9] at H
       have c9b0 := eq_true c9
       have c9b1 : decide (1 ≤ (a0.size : Int)) = true := decide_eq_true c9
       clear c9
       replace H := Option.bind_eq_some_iff.mp H
       obtain ⟨⟨t211, t212⟩, A100, H⟩ := H
       replace H : (if t212 = 0 then (some (0, 0)) else (value_next.j1 kj2 a0 t211 (wrap64 (t212 + 1)))) = some (r1, r2) := H
       have A10 := Aside0.mk A100
       clear A100
       by_cases c11 : t212 = 0
       ·rw [if_pos c11] at H
        have c11b0 : (t212 == 0) = true := beq_iff_eq.mpr c11
        have c11b1 : (t212 != 0) = false := bne_eq_false_iff_eq.mpr c11
        clear c11
        simp only [Option.some.injEq, Prod.mk.injEq] at H
        obtain ⟨rfl, rfl⟩ := H
        go_wp2_with (first | ((with_reducible refine gate_callee (f := 163) rfl ?_); refine goesA (some 22) Tryz.func163 #[.string (a0.extract 1 a0.size)] ?_; (with_reducible refine (value_escaped.calls kj2 (a0.extract 1 a0.size) t211 t212 _ A10.out).mono ?_); rintro e w' ⟨rfl, ⟨nd, rfl⟩⟩; refine ⟨_, rfl, ?_⟩))
        go_ret2
        exact ⟨endA, bwA⟩
       ·rw [if_neg c11] at H
        have c11b0 : (t212 == 0) = false := beq_eq_false_iff_ne.mpr c11
        have c11b1 : (t212 != 0) = true := bne_iff_ne.mpr c11
        have H' := Aside0.mk H
        clear H
        go_wp2_with (first | ((with_reducible refine gate_callee (f := 163) rfl ?_); refine goesA (some 22) Tryz.func163 #[.string (a0.extract 1 a0.size)] ?_; (with_reducible refine (value_escaped.calls kj2 (a0.extract 1 a0.size) t211 t212 _ A10.out).mono ?_); rintro e w' ⟨rfl, ⟨nd, rfl⟩⟩; refine ⟨_, rfl, ?_⟩))
        go_meet
        case rel => exact ⟨_, (t211), (wrap64 (t212 + 1)), (endS), (endS), H', ⟨by have := HJ2.out; first | omega | exact Nat.le_refl _⟩, ⟨bwA⟩⟩
      ·rw [if_neg c9] at H
       exact absurd H (by simp)
     ·rw [if_neg c8] at H
      have c8b0 : (t209 == 92) = false := beq_eq_false_iff_ne.mpr c8
      have c8b1 : (t209 != 92) = true := bne_iff_ne.mpr c8
      (first | rw [c8b0] | (simp only [i64_w, i32_w]; rw [c8b0]) | skip)
      have H' := Aside0.mk H
      clear H
      go_wp2
      go_meet
      case rel => exact ⟨_, (t209), (t210), (endS), (endS), H', ⟨by have := HJ2.out; first | omega | exact Nat.le_refl _⟩, ⟨bwA⟩⟩
    case rest =>
     clear HC7
     try clear c1
     try clear p2
     try clear c5
     try clear c5b0
     try clear c5b1
     try clear c6
     try clear p6
     try clear c8
     try clear c8b0
     try clear c8b1
     try clear c9
     try clear c9b0
     try clear c9b1
     try clear c11
     try clear c11b0
     try clear c11b1
     try clear p2
     obtain ⟨kq, x4_6, x5_6, rfl, rfl, HA, HJ6, HB⟩ := hcut
     cases kq with
     | zero => exact absurd HA.out (by simp [value_next.j1])
     | succ kj6 =>
      have H := HA.out
      clear HA
      simp only [value_next.j1] at H
      replace H := Option.bind_eq_some_iff.mp H
      obtain ⟨t213, A120, H⟩ := H
      replace H : ((strings_HasPrefix.f a0 t213).bind fun t214 => (if t214 = true then ((value_escape.f x4_6).bind fun t215 => (if (t215.size : Int) = x5_6 then (some (x4_6, x5_6)) else (some (0, 0)))) else (some (0, 0)))) = some (r1, r2) := H
      have A12 := Aside0.mk A120
      clear A120
      replace H := Option.bind_eq_some_iff.mp H
      obtain ⟨t214, A130, H⟩ := H
      replace H : (if t214 = true then ((value_escape.f x4_6).bind fun t215 => (if (t215.size : Int) = x5_6 then (some (x4_6, x5_6)) else (some (0, 0)))) else (some (0, 0))) = some (r1, r2) := H
      have A13 := Aside0.mk A130
      clear A130
      by_cases c14 : t214 = true
      ·subst c14
       have H1 : ((value_escape.f x4_6).bind fun t215 => (if (t215.size : Int) = x5_6 then (some (x4_6, x5_6)) else (some (0, 0)))) = some (r1, r2) := by rw [if_pos rfl] at H; exact H
       clear H
       have H := H1
       clear H1
       replace H := Option.bind_eq_some_iff.mp H
       obtain ⟨t215, A150, H⟩ := H
       replace H : (if (t215.size : Int) = x5_6 then (some (x4_6, x5_6)) else (some (0, 0))) = some (r1, r2) := H
       have A15 := Aside0.mk A150
       clear A150
       by_cases c16 : (t215.size : Int) = x5_6
       ·rw [if_pos c16] at H
        have c16b0 : ((t215.size : Int) == x5_6) = true := beq_iff_eq.mpr c16
        have c16b1 : ((t215.size : Int) != x5_6) = false := bne_eq_false_iff_eq.mpr c16
        clear c16
        simp only [Option.some.injEq, Prod.mk.injEq] at H
        obtain ⟨rfl, rfl⟩ := H
        go_wp2_with (first | ((with_reducible refine gate_callee (f := 108) rfl ?_); refine goesA (some 31) Tryz.func108 #[.int .i32 x4_6] ?_; (with_reducible refine (value_escape.calls x4_6 t213 _ ?side1 A12.out).mono ?_); (case side1 => exact Tabs.below HT.out (bwA)); rintro e w17 ⟨rfl, hb⟩; refine ⟨_, rfl, ?_⟩; have n0_ := Aside0.mk (below_step (bwA) hb); clear HB; have HB := n0_; clear n0_; (try clear hb); (try clear hb2); (try clear hk); (try clear hi)) | ((with_reducible refine gate_callee (f := 119) rfl ?_); refine goesA (some 32) Tryz.func119 #[.string a0, .string t213] ?_; (with_reducible refine (strings_HasPrefix.calls a0 t213 true _ A13.out).mono ?_); rintro e w' ⟨rfl, ⟨nd, rfl⟩⟩; refine ⟨_, rfl, ?_⟩) | (go_at_call 108; (with_reducible refine (value_escape.calls x4_6 t215 _ ?side1 A15.out).mono ?_); (case side1 => exact Tabs.below HT.out (bwA)); rintro e w18 ⟨rfl, hb⟩; have n0_ := Aside0.mk (below_step (bwA) hb); clear HB; have HB := n0_; clear n0_; (try clear hb); (try clear hb2); (try clear hk); (try clear hi)))
        go_ret2
        exact ⟨endA, bwA⟩
       ·rw [if_neg c16] at H
        have c16b0 : ((t215.size : Int) == x5_6) = false := beq_eq_false_iff_ne.mpr c16
        have c16b1 : ((t215.size : Int) != x5_6) = true := bne_iff_ne.mpr c16
        simp only [Option.some.injEq, Prod.mk.injEq] at H
        obtain ⟨rfl, rfl⟩ := H
        go_wp2_with (first | ((with_reducible refine gate_callee (f := 108) rfl ?_); refine goesA (some 31) Tryz.func108 #[.int .i32 x4_6] ?_; (with_reducible refine (value_escape.calls x4_6 t213 _ ?side1 A12.out).mono ?_); (case side1 => exact Tabs.below HT.out (bwA)); rintro e w19 ⟨rfl, hb⟩; refine ⟨_, rfl, ?_⟩; have n0_ := Aside0.mk (below_step (bwA) hb); clear HB; have HB := n0_; clear n0_; (try clear hb); (try clear hb2); (try clear hk); (try clear hi)) | ((with_reducible refine gate_callee (f := 119) rfl ?_); refine goesA (some 32) Tryz.func119 #[.string a0, .string t213] ?_; (with_reducible refine (strings_HasPrefix.calls a0 t213 true _ A13.out).mono ?_); rintro e w' ⟨rfl, ⟨nd, rfl⟩⟩; refine ⟨_, rfl, ?_⟩) | (go_at_call 108; (with_reducible refine (value_escape.calls x4_6 t215 _ ?side1 A15.out).mono ?_); (case side1 => exact Tabs.below HT.out (bwA)); rintro e w20 ⟨rfl, hb⟩; have n0_ := Aside0.mk (below_step (bwA) hb); clear HB; have HB := n0_; clear n0_; (try clear hb); (try clear hb2); (try clear hk); (try clear hi)))
        go_ret2
        exact ⟨endA, bwA⟩
      ·replace c14 := Bool.eq_false_iff.mpr c14
       subst c14
       have H1 : (some (0, 0)) = some (r1, r2) := by rw [if_neg (show ¬ (false = true) by decide)] at H; exact H
       clear H
       have H := H1
       clear H1
       simp only [Option.some.injEq, Prod.mk.injEq] at H
       obtain ⟨rfl, rfl⟩ := H
       go_wp2_with (first | ((with_reducible refine gate_callee (f := 108) rfl ?_); refine goesA (some 31) Tryz.func108 #[.int .i32 x4_6] ?_; (with_reducible refine (value_escape.calls x4_6 t213 _ ?side1 A12.out).mono ?_); (case side1 => exact Tabs.below HT.out (bwA)); rintro e w21 ⟨rfl, hb⟩; refine ⟨_, rfl, ?_⟩; have n0_ := Aside0.mk (below_step (bwA) hb); clear HB; have HB := n0_; clear n0_; (try clear hb); (try clear hb2); (try clear hk); (try clear hi)) | ((with_reducible refine gate_callee (f := 119) rfl ?_); refine goesA (some 32) Tryz.func119 #[.string a0, .string t213] ?_; (with_reducible refine (strings_HasPrefix.calls a0 t213 false _ A13.out).mono ?_); rintro e w' ⟨rfl, ⟨nd, rfl⟩⟩; refine ⟨_, rfl, ?_⟩))
       go_ret2
       exact ⟨endA, bwA⟩

/-! ### value_text: function 118, by hand -/
def value_text.go (k : Nat) : Nat → ByteArray → List UInt8 → Option (Int × Int × ByteArray × ByteArray × Int)
 | 0, _, _ => none
 | f + 1, s, acc =>
  if s.size = 0 then some (0, 0, ⟨#[]⟩, ⟨#[]⟩, 3)
  else if bt s 0 = 34 then (if acc.length > 200 then some (0, 0, ⟨#[]⟩, ⟨#[]⟩, 2) else some (2, 0, ⟨acc.toArray⟩, s.extract 1 s.size, 0))
  else (value_next.f k s).bind fun cn => if cn.2 = 0 then some (0, 0, ⟨#[]⟩, ⟨#[]⟩, 3)
   else if 0 ≤ cn.2 ∧ cn.2 ≤ s.size ∧ -2147483648 ≤ cn.1 ∧ cn.1 ≤ 2147483647 then value_text.go k f (s.extract cn.2.toNat s.size) (acc ++ Lib.encodeRune cn.1) else none
def value_text.f (k : Nat) (a0 : ByteArray) : Option (Int × Int × ByteArray × ByteArray × Int) :=
 if 1 ≤ a0.size ∧ a0.size ≤ 1099511627776 then value_text.go k k (a0.extract 1 a0.size) [] else none
theorem value_text.mono_go (k : Nat) : ∀ f s acc, LeO (value_text.go k f s acc) (value_text.go (k + 1) (f + 1) s acc)
 | 0, _, _ => fun r h => by simp [value_text.go] at h
 | f + 1, s, acc => by
  unfold value_text.go
  repeat' first
   | (with_reducible exact LeO.refl _)
   | (with_reducible exact LeO.none _)
   | (with_reducible exact value_next.mono _ _)
   | exact value_text.mono_go k f _ _
   | (with_reducible refine LeO.ite ?_ ?_)
   | (with_reducible refine LeO.bind ?_ (fun _ => ?_))
theorem value_text.mono : ∀ a0 k, LeO (value_text.f k a0) (value_text.f (k + 1) a0) := by
 intro a0 k
 unfold value_text.f
 repeat' first
  | exact value_text.mono_go k k _ _
  | exact LeO.none _
  | refine LeO.ite ?_ ?_
set_option maxHeartbeats 4000000 in
set_option maxRecDepth 100000 in
theorem value_text.calls (k : Nat) (a0 : ByteArray) (r1 : Int) (r2 : Int) (r3 : ByteArray) (r4 : ByteArray) (r5 : Int) (w : World) (hT : Tabs w) (h : value_text.f k a0 = some (r1, r2, r3, r4, r5)) :
  Calls Tryz.prog 118 #[.string a0] w fun e w' => e = .returned (.tuple #[.agg #[.int .i64 r1, .int .i64 r2, .string r3], .string r4, .int .i64 r5]) ∧ Below w.heap.size w w' := by
 unfold value_text.f at h
 split at h
 ·rename_i hs
  obtain ⟨hs0, hs1⟩ := hs
  have hs0z : (1 : Int) ≤ (a0.size : Int) := by omega
  have H := Lib.hid h
  clear h
  have hu := Tryz.underlying55
  have hez : (a0.extract 1 a0.size).size ≤ a0.size := by simp
  go_enter Tryz.func118, Tryz.ntmps118
  go_wp2_with fail
  obtain ⟨w1, hw1⟩ : ∃ w1, w1 = w.alloc (.cells #[.int .i64 0, .int .i64 0, .string ⟨#[]⟩] 55) := ⟨_, rfl⟩
  have hz1 : w1.heap.size = w.heap.size + 1 := by rw [hw1]; simp
  have hv1 : w1.heap[w.heap.size]? = some (.cells #[.int .i64 0, .int .i64 0, .string ⟨#[]⟩] 55 (0, 0)) := by rw [hw1]; exact heap_alloc_new w _
  have hb1 : Below w.heap.size w w1 := by rw [hw1]; exact (Below.refl _ w).alloc (Nat.le_refl _) _
  rw [← hw1]
  clear hw1
  have I0 := Lib.IsBuilderF.of (Lib.fresh_isBuilder 75 5 w1)
  rw [hz1] at I0
  go_loopg [0] k (fun gk s0 wx => ∃ (t : ByteArray) (acc : List UInt8), s0 = .string t ∧ Lib.IsBuilderF 75 5 (w.heap.size + 1) (w.heap.size + 1) (Lib.byteCells acc) wx ∧ Below (w.heap.size + 1) w1 wx ∧ Hid (value_text.go k gk t acc = some (r1, r2, r3, r4, r5)) ∧ acc.length + 4 * t.size ≤ 4398046511104 ∧ t.size ≤ 1099511627776)
  case atStart => exact ⟨_, [], rfl, I0, (Below.refl _ w1).alloc (by omega) _, H, by simp; omega, by omega⟩
  case round =>
   obtain ⟨t, acc, rfl, hI, hbw, HG, hal, hts⟩ := hrel
   have hvx : wr.heap[w.heap.size]? = some (.cells #[.int .i64 0, .int .i64 0, .string ⟨#[]⟩] 55 (0, 0)) := (hbw.block _ (by omega)).trans hv1
   have hszx : w.heap.size + 1 ≤ wr.heap.size := by have := hbw.size; omega
   have hbx : Below w.heap.size w wr := hb1.trans (hbw.mono (by omega))
   cases gk with
   | zero => exact absurd HG.out (by simp [value_text.go])
   | succ g =>
    have hgo := HG.out
    clear HG hu
    unfold value_text.go at hgo
    by_cases ht0 : t.size = 0
    ·rw [if_pos ht0] at hgo
     have hgo := Option.some.inj hgo
     simp only [Prod.mk.injEq] at hgo
     obtain ⟨rfl, rfl, rfl, rfl, rfl⟩ := hgo
     obtain rfl : t = ⟨#[]⟩ := by
      cases t with | mk d => simp only [ByteArray.size] at ht0; rw [Array.eq_empty_of_size_eq_zero ht0]
     clear hI hal hts ht0
     have c0 := fun j => Lib.cell_of_heap hvx j
     have f0 := fun j => Lib.frozen_of_heap hvx j
     go_wp2_with fail
     refine bodyPost_ret (results_ctt rfl _ _ w.heap.size 55 _ (0, 0) _ rfl (vput3 hvx _ _ _) Tryz.underlying55 rfl (by kernel_rfl)) rfl ?_
     exact ⟨rfl, bput3 hbx (Nat.le_refl _) _ _ _⟩
    ·rw [if_neg ht0] at hgo
     have hpos : 0 < t.size := by omega
     have hposz : (0 : Int) < (t.size : Int) := by omega
     obtain ⟨ch, hch⟩ : ∃ ch : Int, bt t 0 = ch := ⟨_, rfl⟩
     have hchr : 0 ≤ ch ∧ ch ≤ 255 := hch ▸ bt_range t 0
     have hcb : ((t[0]'hpos).toNat : Int) = ch := by rw [← hch]; exact bt_at t 0 hpos
     rw [hch] at hgo
     clear hch
     have hne1 := toList_ne hpos
     have hne2 : t.toList.isEmpty = false := by rw [Bool.eq_false_iff]; simpa using hne1
     have c0 := fun j => Lib.cell_of_heap hvx j
     have f0 := fun j => Lib.frozen_of_heap hvx j
     by_cases hq : ch = 34
     ·rw [if_pos hq] at hgo
      subst hq
      by_cases hl : acc.length > 200
      ·rw [if_pos hl] at hgo
       have hgo := Option.some.inj hgo
       simp only [Prod.mk.injEq] at hgo
       obtain ⟨rfl, rfl, rfl, rfl, rfl⟩ := hgo
       have b1 : decide (((Lib.byteCells acc).length : Int) > 200) = true := decide_eq_true (by rw [Lib.byteCells_length]; omega)
       go_wp2_with fail
       refine (Tryz.Builder_Len_f _ _ _ _ hI).mono ?_
       rintro e W2 ⟨rfl, rfl⟩
       go_wp2
       refine bodyPost_ret (results_ctt rfl _ _ w.heap.size 55 _ (0, 0) _ rfl (vput3 hvx _ _ _) Tryz.underlying55 rfl (by kernel_rfl)) rfl ?_
       exact ⟨rfl, bput3 hbx (Nat.le_refl _) _ _ _⟩
      ·rw [if_neg hl] at hgo
       have hgo := Option.some.inj hgo
       simp only [Prod.mk.injEq] at hgo
       obtain ⟨rfl, rfl, rfl, rfl, rfl⟩ := hgo
       have b1 : decide (((Lib.byteCells acc).length : Int) > 200) = false := decide_eq_false (by rw [Lib.byteCells_length]; omega)
       go_wp2_with fail
       refine (Tryz.Builder_Len_f _ _ _ _ hI).mono ?_
       rintro e W2 ⟨rfl, rfl⟩
       have cS := fun (W : World) (hW : W.heap = W2.heap) => Tryz.Builder_String_any_k (w.heap.size + 1) (w.heap.size + 1) acc W (builderF_heap hI hW) (by rw [hW]; exact hszx)
       go_wp2_with fail
       go_region_with (go_at_call 43; refine (cS _ ?_).mono ?_; exact rfl; rintro e W3 ⟨rfl, _, b3, _⟩; have hv3 := (b3.block w.heap.size (by omega)).trans hvx; have c3 := fun j => Lib.cell_of_heap hv3 j; have f3 := fun j => Lib.frozen_of_heap hv3 j)
       all_goals
        have b4 := b3.mono (Nat.le_succ w.heap.size)
        have hb3 : Below w.heap.size w W3 := (below_drew hbx).trans b4
        go_wp2
        refine bodyPost_ret (results_ctt rfl _ _ w.heap.size 55 _ (0, 0) _ rfl (vput3 hv3 _ _ _) Tryz.underlying55 rfl (by kernel_rfl)) rfl ?_
        exact ⟨rfl, bput3 hb3 (Nat.le_refl _) _ _ _⟩
     ·rw [if_neg hq] at hgo
      have bq : (ch == 34) = false := beq_eq_false_iff_ne.2 hq
      have bq2 : (ch != 34) = true := bne_iff_ne.2 hq
      obtain ⟨⟨c, n⟩, hcn, hgo⟩ := Option.bind_eq_some_iff.1 hgo
      have cN := fun W hW => value_next.calls k t c n W hW hcn
      have hTx : Tabs wr := hT.below hbx
      simp only at hgo
      have HC := Lib.hid hcn
      clear hcn
      go_wp2_with fail
      refine (cN _ hTx).mono ?_
      rintro e W2 ⟨rfl, hb2⟩
      have hI2 := builderF_below hI hb2
      have hv2 := (hb2.block w.heap.size (by omega)).trans hvx
      have hbx2 : Below w.heap.size w W2 := hbx.trans (hb2.mono (by omega))
      have hbw2 : Below (w.heap.size + 1) w1 W2 := hbw.trans (hb2.mono (by omega))
      have hsz2 : w.heap.size + 1 ≤ W2.heap.size := Nat.le_trans hszx hb2.size
      have c2 := fun j => Lib.cell_of_heap hv2 j
      have f2 := fun j => Lib.frozen_of_heap hv2 j
      clear c0 f0 cN hI hbw hvx hbx hTx
      by_cases hn0 : n = 0
      ·subst hn0
       rw [if_pos rfl] at hgo
       have hgo := Option.some.inj hgo
       simp only [Prod.mk.injEq] at hgo
       obtain ⟨rfl, rfl, rfl, rfl, rfl⟩ := hgo
       go_wp2
       refine bodyPost_ret (results_ctt rfl _ _ w.heap.size 55 _ (0, 0) _ rfl (vput3 hv2 _ _ _) Tryz.underlying55 rfl (by kernel_rfl)) rfl ?_
       exact ⟨rfl, bput3 hbx2 (Nat.le_refl _) _ _ _⟩
      ·rw [if_neg hn0] at hgo
       have bn : (n == 0) = false := beq_eq_false_iff_ne.2 hn0
       split at hgo
       ·rename_i hr
        obtain ⟨hr1, hr2, hr3, hr4⟩ := hr
        have HGO := Lib.hid hgo
        have hn1 : 1 ≤ n := by omega
        clear hgo hn0
        go_wp2_with fail
        refine (Tryz.Bld_WriteRune _ _ _ c hr3 hr4 _ hI2 (by rw [Lib.byteCells_length]; omega) hsz2).mono ?_
        rintro e W3 ⟨rfl, h1, b3, k3⟩
        go_wp2
        go_roundg g
        case measure => omega
        case rel =>
         have hl4 := Lib.runeCells_le c
         rw [Lib.runeCells_length] at hl4
         have hex : (t.extract n.toNat t.size).size = t.size - n.toNat := by simp
         refine ⟨_, acc ++ Lib.encodeRune c, rfl, ?_, hbw2.trans b3, HGO, ?_, ?_⟩
         ·rw [Lib.byteCells_append, Lib.byteCells_encodeRune]; exact Or.inr h1
         ·rw [List.length_append, hex]; omega
         ·rw [hex]; omega
       ·cases hgo
 ·cases h

end Go.Proofs.YtplemgmfnghoeaaGreatDoor.A
