-- By drv.py, the session's own driver round the kit's print: the machine's side of the laws, function by function. Not trusted: Lean checks it.
import Derived.Test.YtplemgmfnghoeaaGreatDoorAx0
import Derived.Test.YtplemgmfnghoeaaGreatDoorAx15
namespace Go.Proofs.YtplemgmfnghoeaaGreatDoor.A
open Go.RowKit Go.Proofs.YtplemgmfnghoeaaGreatDoorW.PrintWords Go.Proofs.YtplemgmfnghoeaaGreatDoorW.PrintLast Go.Proofs.YtplemgmfnghoeaaGreatDoorW.PrintMore
attribute [local go_sem] max2_int min2_int max_two min_two max_three min_three max_four min_four   -- for this text's walks alone
set_option linter.unusedVariables false
set_option linter.unusedSimpArgs false

/-! ### value_escaped: function 163 -/
mutual
def value_escaped.j0 : Nat → ByteArray → Int → Bool → Option (Int × Int)
 | 0, _, _, _ => none
 | k + 1, x0, x9, x10 => if x10 = true then (if 0 < (x0.size : Int) then (some (wrap32 (bt x0 0), 1)) else (none)) else (if x9 = 110 then (some (10, 1)) else (if x9 = 116 then (some (9, 1)) else (if x9 = 114 then (some (13, 1)) else (if x9 = 117 then (if (x0.size : Int) > 1 then (if 1 < (x0.size : Int) then (value_escaped.j1 k x0 ((bt x0 1) == 123)) else (none)) else (value_escaped.j1 k x0 false)) else (some (0, 0))))))
def value_escaped.j1 : Nat → ByteArray → Bool → Option (Int × Int)
 | 0, _, _ => none
 | k + 1, x0, x31 => if x31 = true then (if 2 ≤ (x0.size : Int) then ((value_numbered.f k (x0.extract 2 x0.size)).bind fun bt207 => (if bt207.2 > 0 then (some (bt207.1, wrap64 (bt207.2 + 2))) else (some (bt207.1, bt207.2)))) else (none)) else (some (0, 0))
end
def value_escaped.f (k : Nat) (a0 : ByteArray) : Option (Int × Int) := if a0.toList = ([] : List UInt8) then (some (0, 0)) else (if 0 < (a0.size : Int) then (if (bt a0 0) = 34 then (value_escaped.j0 k a0 (bt a0 0) ((bt a0 0) == 34)) else (value_escaped.j0 k a0 (bt a0 0) ((bt a0 0) == 92))) else (none))
theorem value_escaped.mono_l : ∀ k, (∀ y0 y1 y2, LeO (value_escaped.j0 k y0 y1 y2) (value_escaped.j0 (k + 1) y0 y1 y2)) ∧ (∀ y0 y1, LeO (value_escaped.j1 k y0 y1) (value_escaped.j1 (k + 1) y0 y1))
 | 0 => ⟨fun _ _ _ r h => by simp [value_escaped.j0] at h, fun _ _ r h => by simp [value_escaped.j1] at h⟩
 | k + 1 => by
  obtain ⟨ih0, ih1⟩ := value_escaped.mono_l k
  refine ⟨?_, ?_⟩
  all_goals intros
  all_goals first | unfold value_escaped.j0 | unfold value_escaped.j1
  all_goals repeat' first
   | (with_reducible exact ih0 _ _ _)
   | (with_reducible exact ih1 _ _)
   | (with_reducible exact value_numbered.mono _ _)
   | (with_reducible exact LeO.refl _)
   | (with_reducible exact LeO.none _)
   | (with_reducible refine LeO.ite ?_ ?_)
   | (with_reducible refine LeO.bind ?_ (fun _ => ?_))
   | exact ih0 _ _ _
   | exact ih1 _ _
   | exact value_numbered.mono _ _
   | exact LeO.none _
   | refine LeO.ite ?_ ?_
   | refine LeO.bind ?_ (fun _ => ?_)
theorem value_escaped.mono : ∀ a0 k, LeO (value_escaped.f k a0) (value_escaped.f (k + 1) a0) := by
 intro a0 k
 obtain ⟨ih0, ih1⟩ := value_escaped.mono_l k
 unfold value_escaped.f
 repeat' first
   | (with_reducible exact ih0 _ _ _)
   | (with_reducible exact ih1 _ _)
   | (with_reducible exact value_numbered.mono _ _)
   | (with_reducible exact LeO.refl _)
   | (with_reducible exact LeO.none _)
   | (with_reducible refine LeO.ite ?_ ?_)
   | (with_reducible refine LeO.bind ?_ (fun _ => ?_))
   | exact ih0 _ _ _
   | exact ih1 _ _
   | exact value_numbered.mono _ _
   | exact LeO.none _
   | refine LeO.ite ?_ ?_
   | refine LeO.bind ?_ (fun _ => ?_)
set_option maxHeartbeats 8000000 in
set_option maxRecDepth 100000 in
theorem value_escaped.calls (k : Nat) (a0 : ByteArray) (r1 : Int) (r2 : Int) (w : World) (h : value_escaped.f k a0 = some (r1, r2)) :
  Calls Tryz.prog 163 #[.string a0] w fun e w' => e = .returned (.tuple #[.int .i32 r1, .int .i64 r2]) ∧ Drawn0 w w' := by
 have H : (if a0.toList = ([] : List UInt8) then (some (0, 0)) else (if 0 < (a0.size : Int) then (if (bt a0 0) = 34 then (value_escaped.j0 k a0 (bt a0 0) ((bt a0 0) == 34)) else (value_escaped.j0 k a0 (bt a0 0) ((bt a0 0) == 92))) else (none))) = some (r1, r2) := h
 clear h
 by_cases c2 : a0.toList = ([] : List UInt8)
 ·rw [if_pos c2] at H
  have c2b0 : (a0.toList == ([] : List UInt8)) = true := beq_iff_eq.mpr c2
  have c2b1 : (a0.toList != ([] : List UInt8)) = false := bne_eq_false_iff_eq.mpr c2
  clear c2
  simp only [Option.some.injEq, Prod.mk.injEq] at H
  obtain ⟨rfl, rfl⟩ := H
  go_enter Tryz.func163, Tryz.ntmps163
  go_wp2
  go_ret2
  exact ⟨endS, drA⟩
 ·rw [if_neg c2] at H
  have c2b0 : (a0.toList == ([] : List UInt8)) = false := beq_eq_false_iff_ne.mpr c2
  have c2b1 : (a0.toList != ([] : List UInt8)) = true := bne_iff_ne.mpr c2
  by_cases c3 : 0 < (a0.size : Int)
  ·rw [if_pos c3] at H
   have c3b0 : decide (0 < (a0.size : Int)) = true := decide_eq_true c3
   have c3b1 : decide (0 < a0.size) = true := decide_eq_true (by omega)
   clear c3
   have HC5 := Aside0.mk H
   clear H
   have p4 : 0 ≤ (0 : Int) := (by omega)
   have q4 : 0 < a0.size := (by have : (0 : Int) < (a0.size : Int) := odA; omega)
   have hx4 : ∀ h : 0 < a0.size, ((a0[0]'h).toNat : Int) = bt a0 0 := bt_at a0 0
   clear p4
   have qi4 : (0 < (a0.size : Int)) = True := eq_true (odA)
   replace q4 := eq_true q4
   go_enter Tryz.func163, Tryz.ntmps163
   go_upto_if 10 with (fail)
   go_cut [10] (fun v10 wc => ∃ (kq : Nat) (x10_4 : Bool), v10 = .bool x10_4 ∧ Aside0 (value_escaped.j0 kq a0 (bt a0 0) x10_4 = some (r1, r2)) ∧ Aside0 (kq ≤ k) ∧ Drawn0 w wc)
   case first =>
    have H := HC5.out
    clear HC5
    by_cases c6 : (bt a0 0) = 34
    ·rw [if_pos c6] at H
     have c6b0 : ((bt a0 0) == 34) = true := beq_iff_eq.mpr c6
     have c6b1 : ((bt a0 0) != 34) = false := bne_eq_false_iff_eq.mpr c6
     clear c6
     (first | rw [c6b0] | (simp only [i64_w, i32_w]; rw [c6b0]) | skip)
     have H' := Aside0.mk H
     clear H
     go_wp2
     go_meet
     case rel => exact ⟨_, (((bt a0 0) == 34)), (endS), H', ⟨by first | omega | exact Nat.le_refl _⟩, drA⟩
    ·rw [if_neg c6] at H
     have c6b0 : ((bt a0 0) == 34) = false := beq_eq_false_iff_ne.mpr c6
     have c6b1 : ((bt a0 0) != 34) = true := bne_iff_ne.mpr c6
     (first | rw [c6b0] | (simp only [i64_w, i32_w]; rw [c6b0]) | skip)
     have H' := Aside0.mk H
     clear H
     go_wp2
     go_meet
     case rel => exact ⟨_, (((bt a0 0) == 92)), (endS), H', ⟨by first | omega | exact Nat.le_refl _⟩, drA⟩
   case rest =>
    clear HC5
    try clear c1
    try clear c2
    try clear c2b0
    try clear c2b1
    try clear p2
    try clear c3
    try clear c3b0
    try clear c3b1
    try clear p4
    try clear q4
    try clear hx4
    try clear qi4
    try clear c6
    try clear c6b0
    try clear c6b1
    try clear p4
    try clear q4
    obtain ⟨kq, x10_4, rfl, HA, HJ4, ⟨mc4, rfl⟩⟩ := hcut
    cases kq with
    | zero => exact absurd HA.out (by simp [value_escaped.j0])
    | succ kj4 =>
     have H := HA.out
     clear HA
     simp only [value_escaped.j0] at H
     by_cases c7 : x10_4 = true
     ·subst c7
      have H1 : (if 0 < (a0.size : Int) then (some (wrap32 (bt a0 0), 1)) else (none)) = some (r1, r2) := by rw [if_pos rfl] at H; exact H
      clear H
      have H := H1
      clear H1
      by_cases c8 : 0 < (a0.size : Int)
      ·rw [if_pos c8] at H
       have c8b0 : decide (0 < (a0.size : Int)) = true := decide_eq_true c8
       have c8b1 : decide (0 < a0.size) = true := decide_eq_true (by omega)
       clear c8
       simp only [Option.some.injEq, Prod.mk.injEq] at H
       obtain ⟨rfl, rfl⟩ := H
       have p9 : 0 ≤ (0 : Int) := (by omega)
       have q9 : 0 < a0.size := (by have : (0 : Int) < (a0.size : Int) := odA; omega)
       have hx9 : ∀ h : 0 < a0.size, ((a0[0]'h).toNat : Int) = bt a0 0 := bt_at a0 0
       clear p9
       have qi9 : (0 < (a0.size : Int)) = True := eq_true (odA)
       replace q9 := eq_true q9
       go_wp2
       go_ret2
       exact ⟨endS, drA⟩
      ·rw [if_neg c8] at H
       exact absurd H (by simp)
     ·replace c7 := Bool.eq_false_iff.mpr c7
      subst c7
      have H1 : (if (bt a0 0) = 110 then (some (10, 1)) else (if (bt a0 0) = 116 then (some (9, 1)) else (if (bt a0 0) = 114 then (some (13, 1)) else (if (bt a0 0) = 117 then (if (a0.size : Int) > 1 then (if 1 < (a0.size : Int) then (value_escaped.j1 kj4 a0 ((bt a0 1) == 123)) else (none)) else (value_escaped.j1 kj4 a0 false)) else (some (0, 0)))))) = some (r1, r2) := by rw [if_neg (show ¬ (false = true) by decide)] at H; exact H
      clear H
      have H := H1
      clear H1
      by_cases c10 : (bt a0 0) = 110
      ·rw [if_pos c10] at H
       have c10b0 : ((bt a0 0) == 110) = true := beq_iff_eq.mpr c10
       have c10b1 : ((bt a0 0) != 110) = false := bne_eq_false_iff_eq.mpr c10
       clear c10
       simp only [Option.some.injEq, Prod.mk.injEq] at H
       obtain ⟨rfl, rfl⟩ := H
       go_wp2
       go_ret2
       exact ⟨endS, drA⟩
      ·rw [if_neg c10] at H
       have c10b0 : ((bt a0 0) == 110) = false := beq_eq_false_iff_ne.mpr c10
       have c10b1 : ((bt a0 0) != 110) = true := bne_iff_ne.mpr c10
       by_cases c11 : (bt a0 0) = 116
       ·rw [if_pos c11] at H
        have c11b0 : ((bt a0 0) == 116) = true := beq_iff_eq.mpr c11
        have c11b1 : ((bt a0 0) != 116) = false := bne_eq_false_iff_eq.mpr c11
        clear c11
        simp only [Option.some.injEq, Prod.mk.injEq] at H
        obtain ⟨rfl, rfl⟩ := H
        go_wp2
        go_ret2
        exact ⟨endS, drA⟩
       ·rw [if_neg c11] at H
        have c11b0 : ((bt a0 0) == 116) = false := beq_eq_false_iff_ne.mpr c11
        have c11b1 : ((bt a0 0) != 116) = true := bne_iff_ne.mpr c11
        by_cases c12 : (bt a0 0) = 114
        ·rw [if_pos c12] at H
         have c12b0 : ((bt a0 0) == 114) = true := beq_iff_eq.mpr c12
         have c12b1 : ((bt a0 0) != 114) = false := bne_eq_false_iff_eq.mpr c12
         clear c12
         simp only [Option.some.injEq, Prod.mk.injEq] at H
         obtain ⟨rfl, rfl⟩ := H
         go_wp2
         go_ret2
         exact ⟨endS, drA⟩
        ·rw [if_neg c12] at H
         have c12b0 : ((bt a0 0) == 114) = false := beq_eq_false_iff_ne.mpr c12
         have c12b1 : ((bt a0 0) != 114) = true := bne_iff_ne.mpr c12
         by_cases c13 : (bt a0 0) = 117
         ·rw [if_pos c13] at H
          have c13b0 : ((bt a0 0) == 117) = true := beq_iff_eq.mpr c13
          have c13b1 : ((bt a0 0) != 117) = false := bne_eq_false_iff_eq.mpr c13
          clear c13
          have HC14 := Aside0.mk H
          clear H
          go_upto_region 14 with (fail)
          go_cut [31] (fun v31 wc => ∃ (kq : Nat) (x31_13 : Bool), v31 = .bool x31_13 ∧ Aside0 (value_escaped.j1 kq a0 x31_13 = some (r1, r2)) ∧ Aside0 (kq ≤ kj4) ∧ Drawn0 w wc)
          case first =>
           have H := HC14.out
           clear HC14
           by_cases c15 : (a0.size : Int) > 1
           ·rw [if_pos c15] at H
            have c15b0 : decide (1 < (a0.size : Int)) = true := decide_eq_true c15
            have c15b1 : decide (1 < a0.size) = true := decide_eq_true (by omega)
            clear c15
            (first | rw [c15b0] | (simp only [i64_w, i32_w]; rw [c15b0]) | skip)
            by_cases c16 : 1 < (a0.size : Int)
            ·rw [if_pos c16] at H
             have c16b0 : decide (1 < (a0.size : Int)) = true := decide_eq_true c16
             have c16b1 : decide (1 < a0.size) = true := decide_eq_true (by omega)
             clear c16
             have H' := Aside0.mk H
             clear H
             have p17 : 0 ≤ (1 : Int) := (by omega)
             have q17 : 1 < a0.size := (by have : (1 : Int) < (a0.size : Int) := odA; omega)
             have hx17 : ∀ h : 1 < a0.size, ((a0[1]'h).toNat : Int) = bt a0 1 := bt_at a0 1
             clear p17
             have qi17 : (1 < (a0.size : Int)) = True := eq_true (odA)
             replace q17 := eq_true q17
             go_wp2
             go_meet
             case rel => exact ⟨_, (((bt a0 1) == 123)), (endS), H', ⟨by have := HJ4.out; first | omega | exact Nat.le_refl _⟩, drA⟩
            ·rw [if_neg c16] at H
             exact absurd H (by simp)
           ·rw [if_neg c15] at H
            have c15b0 : decide (1 < (a0.size : Int)) = false := decide_eq_false c15
            have c15b1 : decide (1 < a0.size) = false := decide_eq_false (by omega)
            clear c15
            (first | rw [c15b0] | (simp only [i64_w, i32_w]; rw [c15b0]) | skip)
            have H' := Aside0.mk H
            clear H
            go_wp2
            go_meet
            case rel => exact ⟨_, (false), (endS), H', ⟨by have := HJ4.out; first | omega | exact Nat.le_refl _⟩, drA⟩
          case rest =>
           clear HC14
           try clear c1
           try clear p1
           try clear q1
           try clear hx1
           try clear qi1
           try clear c2
           try clear c2b0
           try clear c2b1
           try clear p2
           try clear c3
           try clear c3b0
           try clear c3b1
           try clear p3
           try clear c4
           try clear p4
           try clear q4
           try clear hx4
           try clear qi4
           try clear c6
           try clear c6b0
           try clear c6b1
           try clear c7
           try clear c8
           try clear c8b0
           try clear c8b1
           try clear p9
           try clear q9
           try clear hx9
           try clear qi9
           try clear c10
           try clear c10b0
           try clear c10b1
           try clear c11
           try clear c11b0
           try clear c11b1
           try clear c12
           try clear c12b0
           try clear c12b1
           try clear c13
           try clear c13b0
           try clear c13b1
           try clear c15
           try clear c15b0
           try clear c15b1
           try clear c16
           try clear c16b0
           try clear c16b1
           try clear p17
           try clear q17
           try clear hx17
           try clear qi17
           try clear p17
           try clear p2
           try clear p4
           try clear p9
           try clear q17
           try clear q4
           try clear q9
           obtain ⟨kq, x31_13, rfl, HA, HJ13, ⟨mc13, rfl⟩⟩ := hcut
           cases kq with
           | zero => exact absurd HA.out (by simp [value_escaped.j1])
           | succ kj13 =>
            have H := HA.out
            clear HA
            simp only [value_escaped.j1] at H
            by_cases c18 : x31_13 = true
            ·subst c18
             have H1 : (if 2 ≤ (a0.size : Int) then ((value_numbered.f kj13 (a0.extract 2 a0.size)).bind fun bt207 => (if bt207.2 > 0 then (some (bt207.1, wrap64 (bt207.2 + 2))) else (some (bt207.1, bt207.2)))) else (none)) = some (r1, r2) := by rw [if_pos rfl] at H; exact H
             clear H
             have H := H1
             clear H1
             by_cases c19 : 2 ≤ (a0.size : Int)
             ·rw [if_pos c19] at H
              have c19b0 := eq_true c19
              have c19b1 : decide (2 ≤ (a0.size : Int)) = true := decide_eq_true c19
              clear c19
              replace H := Option.bind_eq_some_iff.mp H
              obtain ⟨⟨t207, t208⟩, A200, H⟩ := H
              replace H : (if t208 > 0 then (some (t207, wrap64 (t208 + 2))) else (some (t207, t208))) = some (r1, r2) := H
              have A20 := Aside0.mk A200
              clear A200
              by_cases c21 : t208 > 0
              ·rw [if_pos c21] at H
               have c21b0 : decide (0 < t208) = true := decide_eq_true c21
               clear c21
               simp only [Option.some.injEq, Prod.mk.injEq] at H
               obtain ⟨rfl, rfl⟩ := H
               go_wp2_with (first | ((with_reducible refine gate_callee (f := 173) rfl ?_); refine goesA (some 35) Tryz.func173 #[.string (a0.extract 2 a0.size)] ?_; (with_reducible refine (value_numbered.calls kj13 (a0.extract 2 a0.size) t207 t208 _ A20.out).mono ?_); rintro e w' ⟨rfl, ⟨nd, rfl⟩⟩; refine ⟨_, rfl, ?_⟩))
               go_ret2
               exact ⟨endS, drA⟩
              ·rw [if_neg c21] at H
               have c21b0 : decide (0 < t208) = false := decide_eq_false c21
               clear c21
               simp only [Option.some.injEq, Prod.mk.injEq] at H
               obtain ⟨rfl, rfl⟩ := H
               go_wp2_with (first | ((with_reducible refine gate_callee (f := 173) rfl ?_); refine goesA (some 35) Tryz.func173 #[.string (a0.extract 2 a0.size)] ?_; (with_reducible refine (value_numbered.calls kj13 (a0.extract 2 a0.size) t207 t208 _ A20.out).mono ?_); rintro e w' ⟨rfl, ⟨nd, rfl⟩⟩; refine ⟨_, rfl, ?_⟩))
               go_ret2
               exact ⟨endS, drA⟩
             ·rw [if_neg c19] at H
              exact absurd H (by simp)
            ·replace c18 := Bool.eq_false_iff.mpr c18
             subst c18
             have H1 : (some (0, 0)) = some (r1, r2) := by rw [if_neg (show ¬ (false = true) by decide)] at H; exact H
             clear H
             have H := H1
             clear H1
             simp only [Option.some.injEq, Prod.mk.injEq] at H
             obtain ⟨rfl, rfl⟩ := H
             go_wp2
             go_ret2
             exact ⟨endS, drA⟩
         ·rw [if_neg c13] at H
          have c13b0 : ((bt a0 0) == 117) = false := beq_eq_false_iff_ne.mpr c13
          have c13b1 : ((bt a0 0) != 117) = true := bne_iff_ne.mpr c13
          simp only [Option.some.injEq, Prod.mk.injEq] at H
          obtain ⟨rfl, rfl⟩ := H
          go_wp2
          go_ret2
          exact ⟨endS, drA⟩
  ·rw [if_neg c3] at H
   exact absurd H (by simp)

end Go.Proofs.YtplemgmfnghoeaaGreatDoor.A
