-- By drv.py, the session's own driver round the kit's print: the machine's side of the laws, function by function. Not trusted: Lean checks it.
import Derived.Test.YtoajlmmkkcelgaaGreatDoorAx0
import Derived.Test.YtoajlmmkkcelgaaGreatDoorAx11
namespace Go.Proofs.YtoajlmmkkcelgaaGreatDoor.A
open Go.RowKit Go.Proofs.YtoajlmmkkcelgaaGreatDoorW.PrintWords Go.Proofs.YtoajlmmkkcelgaaGreatDoorW.PrintLast Go.Proofs.YtoajlmmkkcelgaaGreatDoorW.PrintMore
attribute [local go_sem] max2_int min2_int max_two min_two max_three min_three max_four min_four   -- for this text's walks alone
set_option linter.unusedVariables false
set_option linter.unusedSimpArgs false

/-! ### caduceusref03_escape: function 21 -/
mutual
def caduceusref03_escape.j0 : Nat → Int → Bool → Option (ByteArray)
 | 0, _, _ => none
 | k + 1, x0, x18 => if x18 = true then ((caduceusref03_Hex.f x0).bind fun t261 => (if 3 + t261.size ≤ 9223372036854775807 then (if ((⟨#[92, 117, 123]⟩ : ByteArray) ++ t261).size + 1 ≤ 9223372036854775807 then (some (((⟨#[92, 117, 123]⟩ : ByteArray) ++ t261) ++ (⟨#[125]⟩ : ByteArray))) else (none)) else (none))) else (if x0 ≥ 16 then (if x0 < 32 then (caduceusref03_escape.j1 k x0 true) else (caduceusref03_escape.j1 k x0 (x0 == 127))) else (caduceusref03_escape.j1 k x0 (x0 == 127)))
def caduceusref03_escape.j1 : Nat → Int → Bool → Option (ByteArray)
 | 0, _, _ => none
 | k + 1, x0, x32 => if x32 = true then ((caduceusref03_Hex.f (wrap64 (Int.tdiv x0 16))).bind fun t262 => (if 3 + t262.size ≤ 9223372036854775807 then ((caduceusref03_Hex.f (Int.tmod x0 16)).bind fun t263 => (if ((⟨#[92, 117, 123]⟩ : ByteArray) ++ t262).size + t263.size ≤ 9223372036854775807 then (if (((⟨#[92, 117, 123]⟩ : ByteArray) ++ t262) ++ t263).size + 1 ≤ 9223372036854775807 then (some ((((⟨#[92, 117, 123]⟩ : ByteArray) ++ t262) ++ t263) ++ (⟨#[125]⟩ : ByteArray))) else (none)) else (none))) else (none))) else ((caduceusref02_Bytes.f x0).bind fun t264 => (some t264))
end
def caduceusref03_escape.f (k : Nat) (a0 : Int) : Option (ByteArray) := if a0 = 34 then (some (⟨#[92, 34]⟩ : ByteArray)) else (if a0 = 92 then (some (⟨#[92, 92]⟩ : ByteArray)) else (if a0 = 10 then (some (⟨#[92, 110]⟩ : ByteArray)) else (if a0 = 9 then (some (⟨#[92, 116]⟩ : ByteArray)) else (if a0 = 13 then (some (⟨#[92, 114]⟩ : ByteArray)) else (if a0 ≥ 0 then (caduceusref03_escape.j0 k a0 (decide (a0 < 16))) else (caduceusref03_escape.j0 k a0 false))))))
theorem caduceusref03_escape.mono_l : ∀ k, (∀ y0 y1, LeO (caduceusref03_escape.j0 k y0 y1) (caduceusref03_escape.j0 (k + 1) y0 y1)) ∧ (∀ y0 y1, LeO (caduceusref03_escape.j1 k y0 y1) (caduceusref03_escape.j1 (k + 1) y0 y1))
 | 0 => ⟨fun _ _ r h => by simp [caduceusref03_escape.j0] at h, fun _ _ r h => by simp [caduceusref03_escape.j1] at h⟩
 | k + 1 => by
  obtain ⟨ih0, ih1⟩ := caduceusref03_escape.mono_l k
  refine ⟨?_, ?_⟩
  all_goals intros
  all_goals first | unfold caduceusref03_escape.j0 | unfold caduceusref03_escape.j1
  all_goals repeat' first
   | (with_reducible exact ih0 _ _)
   | (with_reducible exact ih1 _ _)
   | (with_reducible exact LeO.refl _)
   | (with_reducible exact LeO.none _)
   | (with_reducible refine LeO.ite ?_ ?_)
   | (with_reducible refine LeO.bind ?_ (fun _ => ?_))
   | exact ih0 _ _
   | exact ih1 _ _
   | exact LeO.none _
   | refine LeO.ite ?_ ?_
   | refine LeO.bind ?_ (fun _ => ?_)
theorem caduceusref03_escape.mono : ∀ a0 k, LeO (caduceusref03_escape.f k a0) (caduceusref03_escape.f (k + 1) a0) := by
 intro a0 k
 obtain ⟨ih0, ih1⟩ := caduceusref03_escape.mono_l k
 unfold caduceusref03_escape.f
 repeat' first
   | (with_reducible exact ih0 _ _)
   | (with_reducible exact ih1 _ _)
   | (with_reducible exact LeO.refl _)
   | (with_reducible exact LeO.none _)
   | (with_reducible refine LeO.ite ?_ ?_)
   | (with_reducible refine LeO.bind ?_ (fun _ => ?_))
   | exact ih0 _ _
   | exact ih1 _ _
   | exact LeO.none _
   | refine LeO.ite ?_ ?_
   | refine LeO.bind ?_ (fun _ => ?_)
set_option maxHeartbeats 8000000 in
set_option maxRecDepth 100000 in
theorem caduceusref03_escape.calls (k : Nat) (a0 : Int) (r : ByteArray) (w : World) (h : caduceusref03_escape.f k a0 = some r) :
  Calls Tryz.prog 21 #[.int .i64 a0] w fun e w' => e = .returned (.string r) ∧ Below w.heap.size w w' := by
 have HB := Aside0.mk (Below.refl w.heap.size w)
 have H : (if a0 = 34 then (some (⟨#[92, 34]⟩ : ByteArray)) else (if a0 = 92 then (some (⟨#[92, 92]⟩ : ByteArray)) else (if a0 = 10 then (some (⟨#[92, 110]⟩ : ByteArray)) else (if a0 = 9 then (some (⟨#[92, 116]⟩ : ByteArray)) else (if a0 = 13 then (some (⟨#[92, 114]⟩ : ByteArray)) else (if a0 ≥ 0 then (caduceusref03_escape.j0 k a0 (decide (a0 < 16))) else (caduceusref03_escape.j0 k a0 false))))))) = some r := h
 clear h
 by_cases c2 : a0 = 34
 ·rw [if_pos c2] at H
  have c2b0 : (a0 == 34) = true := beq_iff_eq.mpr c2
  have c2b1 : (a0 != 34) = false := bne_eq_false_iff_eq.mpr c2
  clear c2
  obtain rfl := Option.some.inj H
  go_enter Tryz.func21, Tryz.ntmps21
  go_wp2
  go_ret
  exact ⟨by first | rfl | (simp [errW_none, errW_some] <;> rfl) | (simp [*, errW_none, errW_some] <;> rfl), by repeat (first | (with_reducible first | exact HB.out | apply below_alloc | apply pw_below_drewN | apply below_drew1) | exact HB.out)⟩
 ·rw [if_neg c2] at H
  have c2b0 : (a0 == 34) = false := beq_eq_false_iff_ne.mpr c2
  have c2b1 : (a0 != 34) = true := bne_iff_ne.mpr c2
  by_cases c3 : a0 = 92
  ·rw [if_pos c3] at H
   have c3b0 : (a0 == 92) = true := beq_iff_eq.mpr c3
   have c3b1 : (a0 != 92) = false := bne_eq_false_iff_eq.mpr c3
   clear c3
   obtain rfl := Option.some.inj H
   go_enter Tryz.func21, Tryz.ntmps21
   go_wp2
   go_ret
   exact ⟨by first | rfl | (simp [errW_none, errW_some] <;> rfl) | (simp [*, errW_none, errW_some] <;> rfl), by repeat (first | (with_reducible first | exact HB.out | apply below_alloc | apply pw_below_drewN | apply below_drew1) | exact HB.out)⟩
  ·rw [if_neg c3] at H
   have c3b0 : (a0 == 92) = false := beq_eq_false_iff_ne.mpr c3
   have c3b1 : (a0 != 92) = true := bne_iff_ne.mpr c3
   by_cases c4 : a0 = 10
   ·rw [if_pos c4] at H
    have c4b0 : (a0 == 10) = true := beq_iff_eq.mpr c4
    have c4b1 : (a0 != 10) = false := bne_eq_false_iff_eq.mpr c4
    clear c4
    obtain rfl := Option.some.inj H
    go_enter Tryz.func21, Tryz.ntmps21
    go_wp2
    go_ret
    exact ⟨by first | rfl | (simp [errW_none, errW_some] <;> rfl) | (simp [*, errW_none, errW_some] <;> rfl), by repeat (first | (with_reducible first | exact HB.out | apply below_alloc | apply pw_below_drewN | apply below_drew1) | exact HB.out)⟩
   ·rw [if_neg c4] at H
    have c4b0 : (a0 == 10) = false := beq_eq_false_iff_ne.mpr c4
    have c4b1 : (a0 != 10) = true := bne_iff_ne.mpr c4
    by_cases c5 : a0 = 9
    ·rw [if_pos c5] at H
     have c5b0 : (a0 == 9) = true := beq_iff_eq.mpr c5
     have c5b1 : (a0 != 9) = false := bne_eq_false_iff_eq.mpr c5
     clear c5
     obtain rfl := Option.some.inj H
     go_enter Tryz.func21, Tryz.ntmps21
     go_wp2
     go_ret
     exact ⟨by first | rfl | (simp [errW_none, errW_some] <;> rfl) | (simp [*, errW_none, errW_some] <;> rfl), by repeat (first | (with_reducible first | exact HB.out | apply below_alloc | apply pw_below_drewN | apply below_drew1) | exact HB.out)⟩
    ·rw [if_neg c5] at H
     have c5b0 : (a0 == 9) = false := beq_eq_false_iff_ne.mpr c5
     have c5b1 : (a0 != 9) = true := bne_iff_ne.mpr c5
     by_cases c6 : a0 = 13
     ·rw [if_pos c6] at H
      have c6b0 : (a0 == 13) = true := beq_iff_eq.mpr c6
      have c6b1 : (a0 != 13) = false := bne_eq_false_iff_eq.mpr c6
      clear c6
      obtain rfl := Option.some.inj H
      go_enter Tryz.func21, Tryz.ntmps21
      go_wp2
      go_ret
      exact ⟨by first | rfl | (simp [errW_none, errW_some] <;> rfl) | (simp [*, errW_none, errW_some] <;> rfl), by repeat (first | (with_reducible first | exact HB.out | apply below_alloc | apply pw_below_drewN | apply below_drew1) | exact HB.out)⟩
     ·rw [if_neg c6] at H
      have c6b0 : (a0 == 13) = false := beq_eq_false_iff_ne.mpr c6
      have c6b1 : (a0 != 13) = true := bne_iff_ne.mpr c6
      have HC7 := Aside0.mk H
      clear H
      go_enter Tryz.func21, Tryz.ntmps21
      go_upto_region 11 with (fail)
      go_cut [18] (fun v18 wc => ∃ (kq : Nat) (x18_6 : Bool), v18 = .bool x18_6 ∧ Aside0 (caduceusref03_escape.j0 kq a0 x18_6 = some r) ∧ Aside0 (kq ≤ k) ∧ Aside0 (Below w.heap.size w wc))
      case first =>
       have H := HC7.out
       clear HC7
       by_cases c8 : a0 ≥ 0
       ·rw [if_pos c8] at H
        have c8b0 : decide (0 ≤ a0) = true := decide_eq_true c8
        clear c8
        (first | rw [c8b0] | (simp only [i64_w, i32_w]; rw [c8b0]) | skip)
        have H' := Aside0.mk H
        clear H
        go_wp2
        go_meet
        case rel => exact ⟨_, (decide (a0 < 16)), (by first | rfl | (simp; done) | (simp [*]; done)), H', ⟨by first | omega | exact Nat.le_refl _⟩, ⟨by repeat (first | (with_reducible first | exact HB.out | apply below_alloc | apply pw_below_drewN | apply below_drew1) | exact HB.out)⟩⟩
       ·rw [if_neg c8] at H
        have c8b0 : decide (0 ≤ a0) = false := decide_eq_false c8
        clear c8
        (first | rw [c8b0] | (simp only [i64_w, i32_w]; rw [c8b0]) | skip)
        have H' := Aside0.mk H
        clear H
        go_wp2
        go_meet
        case rel => exact ⟨_, (false), (by first | rfl | (simp; done) | (simp [*]; done)), H', ⟨by first | omega | exact Nat.le_refl _⟩, ⟨by repeat (first | (with_reducible first | exact HB.out | apply below_alloc | apply pw_below_drewN | apply below_drew1) | exact HB.out)⟩⟩
      case rest =>
       clear HC7
       try clear c2
       try clear c2b0
       try clear c2b1
       try clear p2
       try clear c3
       try clear c3b0
       try clear c3b1
       try clear c4
       try clear c4b0
       try clear c4b1
       try clear c5
       try clear c5b0
       try clear c5b1
       try clear c6
       try clear c6b0
       try clear c6b1
       try clear c8
       try clear c8b0
       obtain ⟨kq, x18_6, rfl, HA, HJ6, HB⟩ := hcut
       cases kq with
       | zero => exact absurd HA.out (by simp [caduceusref03_escape.j0])
       | succ kj6 =>
        have H := HA.out
        clear HA
        simp only [caduceusref03_escape.j0] at H
        by_cases c9 : x18_6 = true
        ·subst c9
         have H1 : ((caduceusref03_Hex.f a0).bind fun t261 => (if 3 + t261.size ≤ 9223372036854775807 then (if ((⟨#[92, 117, 123]⟩ : ByteArray) ++ t261).size + 1 ≤ 9223372036854775807 then (some (((⟨#[92, 117, 123]⟩ : ByteArray) ++ t261) ++ (⟨#[125]⟩ : ByteArray))) else (none)) else (none))) = some r := by rw [if_pos rfl] at H; exact H
         clear H
         have H := H1
         clear H1
         replace H := Option.bind_eq_some_iff.mp H
         obtain ⟨t261, A100, H⟩ := H
         replace H : (if 3 + t261.size ≤ 9223372036854775807 then (if ((⟨#[92, 117, 123]⟩ : ByteArray) ++ t261).size + 1 ≤ 9223372036854775807 then (some (((⟨#[92, 117, 123]⟩ : ByteArray) ++ t261) ++ (⟨#[125]⟩ : ByteArray))) else (none)) else (none)) = some r := H
         have A10 := Aside0.mk A100
         clear A100
         by_cases c11 : 3 + t261.size ≤ 9223372036854775807
         ·rw [if_pos c11] at H
          have c11b0 := eq_true c11
          have c11b1 : decide (3 + t261.size ≤ 9223372036854775807) = true := decide_eq_true c11
          try have c11b2 : (9223372036854775807 < 3 + t261.size) = False := eq_false (Nat.not_lt.2 c11)
          by_cases c12 : ((⟨#[92, 117, 123]⟩ : ByteArray) ++ t261).size + 1 ≤ 9223372036854775807
          ·rw [if_pos c12] at H
           have c12b0 := eq_true c12
           have c12b1 : decide (((⟨#[92, 117, 123]⟩ : ByteArray) ++ t261).size + 1 ≤ 9223372036854775807) = true := decide_eq_true c12
           try have c12b2 : (9223372036854775807 < ((⟨#[92, 117, 123]⟩ : ByteArray) ++ t261).size + 1) = False := eq_false (Nat.not_lt.2 c12)
           try have c12b3 : (9223372036854775807 < 3 + t261.size + 1) = False := eq_false (by have zz_ := c12; simp only [ByteArray.size_append] at zz_; have zy0_ : (⟨#[92, 117, 123]⟩ : ByteArray).size = 3 := rfl; omega)
           obtain rfl := Option.some.inj H
           go_wp2_with (first | ((with_reducible refine gate_callee (f := 19) rfl ?_); refine goesA (some 20) Tryz.func19 #[.int .i64 a0] ?_; (with_reducible refine (caduceusref03_Hex.calls a0 t261 _ A10.out).mono ?_); rintro e w13 ⟨rfl, hb⟩; refine ⟨_, rfl, ?_⟩; have n0_ := Aside0.mk (below_step bwA hb); clear HB; have HB := n0_; clear n0_; (try clear hb); (try clear hb2); (try clear hk); (try clear hi)))
           go_ret
           exact ⟨by first | rfl | (simp [errW_none, errW_some] <;> rfl) | (simp [*, errW_none, errW_some] <;> rfl), by repeat (first | (with_reducible first | exact HB.out | apply below_alloc | apply pw_below_drewN | apply below_drew1) | exact HB.out)⟩
          ·rw [if_neg c12] at H
           exact absurd H (by simp)
         ·rw [if_neg c11] at H
          exact absurd H (by simp)
        ·replace c9 := Bool.eq_false_iff.mpr c9
         subst c9
         have H1 : (if a0 ≥ 16 then (if a0 < 32 then (caduceusref03_escape.j1 kj6 a0 true) else (caduceusref03_escape.j1 kj6 a0 (a0 == 127))) else (caduceusref03_escape.j1 kj6 a0 (a0 == 127))) = some r := by rw [if_neg (show ¬ (false = true) by decide)] at H; exact H
         clear H
         have H := H1
         clear H1
         have HC14 := Aside0.mk H
         clear H
         go_upto_region 13 with (fail)
         go_cut [32] (fun v32 wc => ∃ (kq : Nat) (x32_13 : Bool), v32 = .bool x32_13 ∧ Aside0 (caduceusref03_escape.j1 kq a0 x32_13 = some r) ∧ Aside0 (kq ≤ kj6) ∧ Aside0 (Below w.heap.size w wc))
         case first =>
          have H := HC14.out
          clear HC14
          by_cases c15 : a0 ≥ 16
          ·rw [if_pos c15] at H
           have c15b0 : decide (16 ≤ a0) = true := decide_eq_true c15
           clear c15
           (first | rw [c15b0] | (simp only [i64_w, i32_w]; rw [c15b0]) | skip)
           by_cases c16 : a0 < 32
           ·rw [if_pos c16] at H
            have c16b0 : decide (a0 < 32) = true := decide_eq_true c16
            clear c16
            have H' := Aside0.mk H
            clear H
            go_wp2
            go_meet
            case rel => exact ⟨_, (true), (by first | rfl | (simp; done) | (simp [*]; done)), H', ⟨by have := HJ6.out; first | omega | exact Nat.le_refl _⟩, ⟨by repeat (first | (with_reducible first | exact HB.out | apply below_alloc | apply pw_below_drewN | apply below_drew1) | exact HB.out)⟩⟩
           ·rw [if_neg c16] at H
            have c16b0 : decide (a0 < 32) = false := decide_eq_false c16
            clear c16
            have H' := Aside0.mk H
            clear H
            go_wp2
            go_meet
            case rel => exact ⟨_, ((a0 == 127)), (by first | rfl | (simp; done) | (simp [*]; done)), H', ⟨by have := HJ6.out; first | omega | exact Nat.le_refl _⟩, ⟨by repeat (first | (with_reducible first | exact HB.out | apply below_alloc | apply pw_below_drewN | apply below_drew1) | exact HB.out)⟩⟩
          ·rw [if_neg c15] at H
           have c15b0 : decide (16 ≤ a0) = false := decide_eq_false c15
           clear c15
           (first | rw [c15b0] | (simp only [i64_w, i32_w]; rw [c15b0]) | skip)
           have H' := Aside0.mk H
           clear H
           go_wp2
           go_meet
           case rel => exact ⟨_, ((a0 == 127)), (by first | rfl | (simp; done) | (simp [*]; done)), H', ⟨by have := HJ6.out; first | omega | exact Nat.le_refl _⟩, ⟨by repeat (first | (with_reducible first | exact HB.out | apply below_alloc | apply pw_below_drewN | apply below_drew1) | exact HB.out)⟩⟩
         case rest =>
          clear HC14
          try clear c1
          try clear c2
          try clear c2b0
          try clear c2b1
          try clear p2
          try clear c3
          try clear c3b0
          try clear c3b1
          try clear c4
          try clear c4b0
          try clear c4b1
          try clear c5
          try clear c5b0
          try clear c5b1
          try clear c6
          try clear c6b0
          try clear c6b1
          try clear c8
          try clear c8b0
          try clear c9
          try clear c11
          try clear c11b0
          try clear c11b1
          try clear c11b2
          try clear c12
          try clear c12b0
          try clear c12b1
          try clear c12b2
          try clear c15
          try clear c15b0
          try clear c16
          try clear c16b0
          try clear p2
          obtain ⟨kq, x32_13, rfl, HA, HJ13, HB⟩ := hcut
          cases kq with
          | zero => exact absurd HA.out (by simp [caduceusref03_escape.j1])
          | succ kj13 =>
           have H := HA.out
           clear HA
           simp only [caduceusref03_escape.j1] at H
           by_cases c17 : x32_13 = true
           ·subst c17
            have H1 : ((caduceusref03_Hex.f (wrap64 (Int.tdiv a0 16))).bind fun t262 => (if 3 + t262.size ≤ 9223372036854775807 then ((caduceusref03_Hex.f (Int.tmod a0 16)).bind fun t263 => (if ((⟨#[92, 117, 123]⟩ : ByteArray) ++ t262).size + t263.size ≤ 9223372036854775807 then (if (((⟨#[92, 117, 123]⟩ : ByteArray) ++ t262) ++ t263).size + 1 ≤ 9223372036854775807 then (some ((((⟨#[92, 117, 123]⟩ : ByteArray) ++ t262) ++ t263) ++ (⟨#[125]⟩ : ByteArray))) else (none)) else (none))) else (none))) = some r := by rw [if_pos rfl] at H; exact H
            clear H
            have H := H1
            clear H1
            replace H := Option.bind_eq_some_iff.mp H
            obtain ⟨t262, A180, H⟩ := H
            replace H : (if 3 + t262.size ≤ 9223372036854775807 then ((caduceusref03_Hex.f (Int.tmod a0 16)).bind fun t263 => (if ((⟨#[92, 117, 123]⟩ : ByteArray) ++ t262).size + t263.size ≤ 9223372036854775807 then (if (((⟨#[92, 117, 123]⟩ : ByteArray) ++ t262) ++ t263).size + 1 ≤ 9223372036854775807 then (some ((((⟨#[92, 117, 123]⟩ : ByteArray) ++ t262) ++ t263) ++ (⟨#[125]⟩ : ByteArray))) else (none)) else (none))) else (none)) = some r := H
            have A18 := Aside0.mk A180
            clear A180
            by_cases c19 : 3 + t262.size ≤ 9223372036854775807
            ·rw [if_pos c19] at H
             have c19b0 := eq_true c19
             have c19b1 : decide (3 + t262.size ≤ 9223372036854775807) = true := decide_eq_true c19
             try have c19b2 : (9223372036854775807 < 3 + t262.size) = False := eq_false (Nat.not_lt.2 c19)
             replace H := Option.bind_eq_some_iff.mp H
             obtain ⟨t263, A200, H⟩ := H
             replace H : (if ((⟨#[92, 117, 123]⟩ : ByteArray) ++ t262).size + t263.size ≤ 9223372036854775807 then (if (((⟨#[92, 117, 123]⟩ : ByteArray) ++ t262) ++ t263).size + 1 ≤ 9223372036854775807 then (some ((((⟨#[92, 117, 123]⟩ : ByteArray) ++ t262) ++ t263) ++ (⟨#[125]⟩ : ByteArray))) else (none)) else (none)) = some r := H
             have A20 := Aside0.mk A200
             clear A200
             by_cases c21 : ((⟨#[92, 117, 123]⟩ : ByteArray) ++ t262).size + t263.size ≤ 9223372036854775807
             ·rw [if_pos c21] at H
              have c21b0 := eq_true c21
              have c21b1 : decide (((⟨#[92, 117, 123]⟩ : ByteArray) ++ t262).size + t263.size ≤ 9223372036854775807) = true := decide_eq_true c21
              try have c21b2 : (9223372036854775807 < ((⟨#[92, 117, 123]⟩ : ByteArray) ++ t262).size + t263.size) = False := eq_false (Nat.not_lt.2 c21)
              try have c21b3 : (9223372036854775807 < 3 + t262.size + t263.size) = False := eq_false (by have zz_ := c21; simp only [ByteArray.size_append] at zz_; have zy0_ : (⟨#[92, 117, 123]⟩ : ByteArray).size = 3 := rfl; omega)
              by_cases c22 : (((⟨#[92, 117, 123]⟩ : ByteArray) ++ t262) ++ t263).size + 1 ≤ 9223372036854775807
              ·rw [if_pos c22] at H
               have c22b0 := eq_true c22
               have c22b1 : decide ((((⟨#[92, 117, 123]⟩ : ByteArray) ++ t262) ++ t263).size + 1 ≤ 9223372036854775807) = true := decide_eq_true c22
               try have c22b2 : (9223372036854775807 < (((⟨#[92, 117, 123]⟩ : ByteArray) ++ t262) ++ t263).size + 1) = False := eq_false (Nat.not_lt.2 c22)
               try have c22b3 : (9223372036854775807 < 3 + t262.size + t263.size + 1) = False := eq_false (by have zz_ := c22; simp only [ByteArray.size_append] at zz_; have zy0_ : (⟨#[92, 117, 123]⟩ : ByteArray).size = 3 := rfl; omega)
               obtain rfl := Option.some.inj H
               go_wp2_with (first | ((with_reducible refine gate_callee (f := 19) rfl ?_); refine goesA (some 35) Tryz.func19 #[.int .i64 (wrap64 (Int.tdiv a0 16))] ?_; (with_reducible refine (caduceusref03_Hex.calls (wrap64 (Int.tdiv a0 16)) t262 _ A18.out).mono ?_); rintro e w23 ⟨rfl, hb⟩; refine ⟨_, rfl, ?_⟩; have n0_ := Aside0.mk (below_step bwA hb); clear HB; have HB := n0_; clear n0_; (try clear hb); (try clear hb2); (try clear hk); (try clear hi)) | ((with_reducible refine gate_callee (f := 19) rfl ?_); refine goesA (some 39) Tryz.func19 #[.int .i64 (Int.tmod a0 16)] ?_; (with_reducible refine (caduceusref03_Hex.calls (Int.tmod a0 16) t263 _ A20.out).mono ?_); rintro e w24 ⟨rfl, hb⟩; refine ⟨_, rfl, ?_⟩; have n0_ := Aside0.mk (below_step bwA hb); clear HB; have HB := n0_; clear n0_; (try clear hb); (try clear hb2); (try clear hk); (try clear hi)))
               go_ret
               exact ⟨by first | rfl | (simp [errW_none, errW_some] <;> rfl) | (simp [*, errW_none, errW_some] <;> rfl), by repeat (first | (with_reducible first | exact HB.out | apply below_alloc | apply pw_below_drewN | apply below_drew1) | exact HB.out)⟩
              ·rw [if_neg c22] at H
               exact absurd H (by simp)
             ·rw [if_neg c21] at H
              exact absurd H (by simp)
            ·rw [if_neg c19] at H
             exact absurd H (by simp)
           ·replace c17 := Bool.eq_false_iff.mpr c17
            subst c17
            have H1 : ((caduceusref02_Bytes.f a0).bind fun t264 => (some t264)) = some r := by rw [if_neg (show ¬ (false = true) by decide)] at H; exact H
            clear H
            have H := H1
            clear H1
            replace H := Option.bind_eq_some_iff.mp H
            obtain ⟨t264, A250, H⟩ := H
            replace H : (some t264) = some r := H
            have A25 := Aside0.mk A250
            clear A250
            obtain rfl := Option.some.inj H
            go_wp2_with (first | ((with_reducible refine gate_callee (f := 35) rfl ?_); refine goesA (some 43) Tryz.func35 #[.int .i64 a0] ?_; (with_reducible refine (caduceusref02_Bytes.calls a0 t264 _ A25.out).mono ?_); rintro e w26 ⟨rfl, hb⟩; refine ⟨_, rfl, ?_⟩; have n0_ := Aside0.mk (below_step bwA hb); clear HB; have HB := n0_; clear n0_; (try clear hb); (try clear hb2); (try clear hk); (try clear hi)))
            go_ret
            exact ⟨by first | rfl | (simp [errW_none, errW_some] <;> rfl) | (simp [*, errW_none, errW_some] <;> rfl), by repeat (first | (with_reducible first | exact HB.out | apply below_alloc | apply pw_below_drewN | apply below_drew1) | exact HB.out)⟩

end Go.Proofs.YtoajlmmkkcelgaaGreatDoor.A
