-- By drv.py, the session's own driver round the kit's print: the machine's side of the laws, function by function. Not trusted: Lean checks it.
import Derived.Test.YtnbbajiabbmdmaaGreatDoorAx0
import Derived.Test.YtnbbajiabbmdmaaGreatDoorAx33
namespace Go.Proofs.YtnbbajiabbmdmaaGreatDoor.A
open Go.RowKit Go.Proofs.YtnbbajiabbmdmaaGreatDoorW.PrintWords Go.Proofs.YtnbbajiabbmdmaaGreatDoorW.PrintLast Go.Proofs.YtnbbajiabbmdmaaGreatDoorW.PrintMore
attribute [local go_sem] max2_int min2_int max_two min_two max_three min_three max_four min_four   -- for this text's walks alone
set_option linter.unusedVariables false
set_option linter.unusedSimpArgs false

/-! ### caduceusref04_word: function 59 -/
def caduceusref04_word.f (a0 : Int) : Option (ByteArray) := if a0 = 1 then (some (⟨#[105, 110, 116]⟩ : ByteArray)) else (if a0 = 2 then (some (⟨#[116, 101, 120, 116]⟩ : ByteArray)) else (if a0 = 3 then (some (⟨#[98, 111, 111, 108]⟩ : ByteArray)) else (some (⟨#[98, 121, 116, 101, 115]⟩ : ByteArray))))
set_option maxHeartbeats 8000000 in
set_option maxRecDepth 100000 in
theorem caduceusref04_word.calls (a0 : Int) (r : ByteArray) (w : World) (h : caduceusref04_word.f a0 = some r) :
  Calls Tryz.prog 59 #[.int .i64 a0] w fun e w' => e = .returned (.string r) ∧ Drawn0 w w' := by
 have H : (if a0 = 1 then (some (⟨#[105, 110, 116]⟩ : ByteArray)) else (if a0 = 2 then (some (⟨#[116, 101, 120, 116]⟩ : ByteArray)) else (if a0 = 3 then (some (⟨#[98, 111, 111, 108]⟩ : ByteArray)) else (some (⟨#[98, 121, 116, 101, 115]⟩ : ByteArray))))) = some r := h
 clear h
 by_cases c2 : a0 = 1
 ·rw [if_pos c2] at H
  have c2b0 : (a0 == 1) = true := beq_iff_eq.mpr c2
  have c2b1 : (a0 != 1) = false := bne_eq_false_iff_eq.mpr c2
  clear c2
  obtain rfl := Option.some.inj H
  go_enter Tryz.func59, Tryz.ntmps59
  go_wp2
  go_ret
  exact ⟨endS, drA⟩
 ·rw [if_neg c2] at H
  have c2b0 : (a0 == 1) = false := beq_eq_false_iff_ne.mpr c2
  have c2b1 : (a0 != 1) = true := bne_iff_ne.mpr c2
  by_cases c3 : a0 = 2
  ·rw [if_pos c3] at H
   have c3b0 : (a0 == 2) = true := beq_iff_eq.mpr c3
   have c3b1 : (a0 != 2) = false := bne_eq_false_iff_eq.mpr c3
   clear c3
   obtain rfl := Option.some.inj H
   go_enter Tryz.func59, Tryz.ntmps59
   go_wp2
   go_ret
   exact ⟨endS, drA⟩
  ·rw [if_neg c3] at H
   have c3b0 : (a0 == 2) = false := beq_eq_false_iff_ne.mpr c3
   have c3b1 : (a0 != 2) = true := bne_iff_ne.mpr c3
   by_cases c4 : a0 = 3
   ·rw [if_pos c4] at H
    have c4b0 : (a0 == 3) = true := beq_iff_eq.mpr c4
    have c4b1 : (a0 != 3) = false := bne_eq_false_iff_eq.mpr c4
    clear c4
    obtain rfl := Option.some.inj H
    go_enter Tryz.func59, Tryz.ntmps59
    go_wp2
    go_ret
    exact ⟨endS, drA⟩
   ·rw [if_neg c4] at H
    have c4b0 : (a0 == 3) = false := beq_eq_false_iff_ne.mpr c4
    have c4b1 : (a0 != 3) = true := bne_iff_ne.mpr c4
    obtain rfl := Option.some.inj H
    go_enter Tryz.func59, Tryz.ntmps59
    go_wp2
    go_ret
    exact ⟨endS, drA⟩

/-! ### caduceusref04_Show: function 27 -/
def caduceusref04_Show.l0 : Nat → List (S72) → ByteArray → Int → Option (ByteArray)
 | 0, _, _, _ => none
 | k + 1, x0, x3, x4 => if x4 < (x0.length : Int) then (if x4 > 0 then (if x3.size + 2 ≤ 9223372036854775807 then (if 0 ≤ x4 then (if (x3 ++ (⟨#[44, 32]⟩ : ByteArray)).size + ((rd_T72 x0 x4).f0).size ≤ 9223372036854775807 then (if ((x3 ++ (⟨#[44, 32]⟩ : ByteArray)) ++ ((rd_T72 x0 x4).f0)).size + 1 ≤ 9223372036854775807 then ((caduceusref04_word.f ((rd_T72 x0 x4).f1)).bind fun t390 => (if (((x3 ++ (⟨#[44, 32]⟩ : ByteArray)) ++ ((rd_T72 x0 x4).f0)) ++ (⟨#[32]⟩ : ByteArray)).size + t390.size ≤ 9223372036854775807 then (if (rd_T72 x0 x4).f2 = true then (if ((((x3 ++ (⟨#[44, 32]⟩ : ByteArray)) ++ ((rd_T72 x0 x4).f0)) ++ (⟨#[32]⟩ : ByteArray)) ++ t390).size + 1 ≤ 9223372036854775807 then (caduceusref04_Show.l0 k x0 (((((x3 ++ (⟨#[44, 32]⟩ : ByteArray)) ++ ((rd_T72 x0 x4).f0)) ++ (⟨#[32]⟩ : ByteArray)) ++ t390) ++ (⟨#[33]⟩ : ByteArray)) (wrap64 (x4 + 1))) else (none)) else (caduceusref04_Show.l0 k x0 ((((x3 ++ (⟨#[44, 32]⟩ : ByteArray)) ++ ((rd_T72 x0 x4).f0)) ++ (⟨#[32]⟩ : ByteArray)) ++ t390) (wrap64 (x4 + 1)))) else (none))) else (none)) else (none)) else (none)) else (none)) else (if 0 ≤ x4 then (if x3.size + ((rd_T72 x0 x4).f0).size ≤ 9223372036854775807 then (if (x3 ++ ((rd_T72 x0 x4).f0)).size + 1 ≤ 9223372036854775807 then ((caduceusref04_word.f ((rd_T72 x0 x4).f1)).bind fun t394 => (if ((x3 ++ ((rd_T72 x0 x4).f0)) ++ (⟨#[32]⟩ : ByteArray)).size + t394.size ≤ 9223372036854775807 then (if (rd_T72 x0 x4).f2 = true then (if (((x3 ++ ((rd_T72 x0 x4).f0)) ++ (⟨#[32]⟩ : ByteArray)) ++ t394).size + 1 ≤ 9223372036854775807 then (caduceusref04_Show.l0 k x0 ((((x3 ++ ((rd_T72 x0 x4).f0)) ++ (⟨#[32]⟩ : ByteArray)) ++ t394) ++ (⟨#[33]⟩ : ByteArray)) (wrap64 (x4 + 1))) else (none)) else (caduceusref04_Show.l0 k x0 (((x3 ++ ((rd_T72 x0 x4).f0)) ++ (⟨#[32]⟩ : ByteArray)) ++ t394) (wrap64 (x4 + 1)))) else (none))) else (none)) else (none)) else (none))) else (some x3)
def caduceusref04_Show.f (k : Nat) (l0 : List (S72)) : Option (ByteArray) := (caduceusref04_Check.f k l0).bind fun t387 => (if t387 = true then (if (l0.length : Int) = 0 then (some (⟨#[45]⟩ : ByteArray)) else (caduceusref04_Show.l0 k l0 (⟨#[]⟩ : ByteArray) 0)) else (some (⟨#[]⟩ : ByteArray)))
theorem caduceusref04_Show.mono_l : ∀ k, (∀ y0 y1 y2, LeO (caduceusref04_Show.l0 k y0 y1 y2) (caduceusref04_Show.l0 (k + 1) y0 y1 y2))
 | 0 => fun _ _ _ r h => by simp [caduceusref04_Show.l0] at h
 | k + 1 => by
  have ih0 := caduceusref04_Show.mono_l k
  ·intro y0 y1 y2
   unfold caduceusref04_Show.l0
   repeat' first
   | (with_reducible exact ih0 _ _ _)
   | (with_reducible exact caduceusref04_Check.mono _ _)
   | (with_reducible exact LeO.refl _)
   | (with_reducible exact LeO.none _)
   | (with_reducible refine LeO.ite ?_ ?_)
   | (with_reducible refine LeO.bind ?_ (fun _ => ?_))
   | exact ih0 _ _ _
   | exact caduceusref04_Check.mono _ _
   | exact LeO.none _
   | refine LeO.ite ?_ ?_
   | refine LeO.bind ?_ (fun _ => ?_)
theorem caduceusref04_Show.mono : ∀ a0 k, LeO (caduceusref04_Show.f k a0) (caduceusref04_Show.f (k + 1) a0) := by
 intro a0 k
 have ih0 := caduceusref04_Show.mono_l k
 unfold caduceusref04_Show.f
 repeat' first
   | (with_reducible exact ih0 _ _ _)
   | (with_reducible exact caduceusref04_Check.mono _ _)
   | (with_reducible exact LeO.refl _)
   | (with_reducible exact LeO.none _)
   | (with_reducible refine LeO.ite ?_ ?_)
   | (with_reducible refine LeO.bind ?_ (fun _ => ?_))
   | exact ih0 _ _ _
   | exact caduceusref04_Check.mono _ _
   | exact LeO.none _
   | refine LeO.ite ?_ ?_
   | refine LeO.bind ?_ (fun _ => ?_)
set_option maxHeartbeats 8000000 in
set_option maxRecDepth 100000 in
theorem caduceusref04_Show.calls (k : Nat) (A0 : Option Addr) (c0 : Nat) (l0 : List (S72)) (r : ByteArray) (w : World) (hr0 : Kd.C k72 w A0 l0.length l0) (hc0 : l0.length ≤ c0) (h : caduceusref04_Show.f k l0 = some r) :
  Calls Tryz.prog 27 #[.slice A0 l0.length c0] w fun e w' => e = .returned (.string r) ∧ Below w.heap.size w w' := by
 have HR0 := Aside0.mk hr0
 have HC0 := Aside0.mk hc0
 clear hr0 hc0
 have HB := Aside0.mk (Below.refl w.heap.size w)
 have H : ((caduceusref04_Check.f k l0).bind fun t387 => (if t387 = true then (if (l0.length : Int) = 0 then (some (⟨#[45]⟩ : ByteArray)) else (caduceusref04_Show.l0 k l0 (⟨#[]⟩ : ByteArray) 0)) else (some (⟨#[]⟩ : ByteArray)))) = some r := h
 clear h
 replace H := Option.bind_eq_some_iff.mp H
 obtain ⟨t387, A20, H⟩ := H
 replace H : (if t387 = true then (if (l0.length : Int) = 0 then (some (⟨#[45]⟩ : ByteArray)) else (caduceusref04_Show.l0 k l0 (⟨#[]⟩ : ByteArray) 0)) else (some (⟨#[]⟩ : ByteArray))) = some r := H
 have A2 := Aside0.mk A20
 clear A20
 by_cases c3 : t387 = true
 ·subst c3
  have H1 : (if (l0.length : Int) = 0 then (some (⟨#[45]⟩ : ByteArray)) else (caduceusref04_Show.l0 k l0 (⟨#[]⟩ : ByteArray) 0)) = some r := by rw [if_pos rfl] at H; exact H
  clear H
  have H := H1
  clear H1
  by_cases c4 : (l0.length : Int) = 0
  ·rw [if_pos c4] at H
   have c4b0 : ((l0.length : Int) == 0) = true := beq_iff_eq.mpr c4
   have c4b1 : ((l0.length : Int) != 0) = false := bne_eq_false_iff_eq.mpr c4
   clear c4
   obtain rfl := Option.some.inj H
   go_enter Tryz.func27, Tryz.ntmps27
   go_wp2_with (first | (go_at_call 14; (with_reducible refine (caduceusref04_Check.calls k _ _ l0 true _ ?side1 ?side2 A2.out).mono ?_); (case side1 => repeat (first | exact HR0.out | (with_reducible refine Kd.C_alloc ?_ _) | (with_reducible refine Kd.C_drewN ?_ _) | (with_reducible refine Kd.C_drew ?_))); (case side2 => exact HC0.out); rintro e w5 ⟨rfl, hb⟩; have n0_ := Aside0.mk (below_step (bwA) hb); clear HB; have HB := n0_; clear n0_; (try clear hb); (try clear hb2); (try clear hk); (try clear hi)))
   repeat (go_quiet (first | (go_at_call 14; (with_reducible refine (caduceusref04_Check.calls k _ _ l0 true _ ?side1 ?side2 A2.out).mono ?_); (case side1 => repeat (first | exact HR0.out | (with_reducible refine Kd.C_alloc ?_ _) | (with_reducible refine Kd.C_drewN ?_ _) | (with_reducible refine Kd.C_drew ?_))); (case side2 => exact HC0.out); rintro e w5 ⟨rfl, hb⟩; have n0_ := Aside0.mk (below_step (bwA) hb); clear HB; have HB := n0_; clear n0_; (try clear hb); (try clear hb2); (try clear hk); (try clear hi))); try go_wp2_with (first | (go_at_call 14; (with_reducible refine (caduceusref04_Check.calls k _ _ l0 true _ ?side1 ?side2 A2.out).mono ?_); (case side1 => repeat (first | exact HR0.out | (with_reducible refine Kd.C_alloc ?_ _) | (with_reducible refine Kd.C_drewN ?_ _) | (with_reducible refine Kd.C_drew ?_))); (case side2 => exact HC0.out); rintro e w5 ⟨rfl, hb⟩; have n0_ := Aside0.mk (below_step (bwA) hb); clear HB; have HB := n0_; clear n0_; (try clear hb); (try clear hb2); (try clear hk); (try clear hi))))
   go_ret
   exact ⟨endA, bwA⟩
  ·rw [if_neg c4] at H
   have c4b0 : ((l0.length : Int) == 0) = false := beq_eq_false_iff_ne.mpr c4
   have c4b1 : ((l0.length : Int) != 0) = true := bne_iff_ne.mpr c4
   have c4b2 : ¬ (l0 = []) := fun h_ => c4 (by rw [h_]; rfl)
   have H' := Aside0.mk H
   clear H
   go_enter Tryz.func27, Tryz.ntmps27
   go_wp2_with (first | (go_at_call 14; (with_reducible refine (caduceusref04_Check.calls k _ _ l0 true _ ?side1 ?side2 A2.out).mono ?_); (case side1 => repeat (first | exact HR0.out | (with_reducible refine Kd.C_alloc ?_ _) | (with_reducible refine Kd.C_drewN ?_ _) | (with_reducible refine Kd.C_drew ?_))); (case side2 => exact HC0.out); rintro e w6 ⟨rfl, hb⟩; have n0_ := Aside0.mk (below_step (bwA) hb); clear HB; have HB := n0_; clear n0_; (try clear hb); (try clear hb2); (try clear hk); (try clear hi)))
   repeat (go_quiet (first | (go_at_call 14; (with_reducible refine (caduceusref04_Check.calls k _ _ l0 true _ ?side1 ?side2 A2.out).mono ?_); (case side1 => repeat (first | exact HR0.out | (with_reducible refine Kd.C_alloc ?_ _) | (with_reducible refine Kd.C_drewN ?_ _) | (with_reducible refine Kd.C_drew ?_))); (case side2 => exact HC0.out); rintro e w6 ⟨rfl, hb⟩; have n0_ := Aside0.mk (below_step (bwA) hb); clear HB; have HB := n0_; clear n0_; (try clear hb); (try clear hb2); (try clear hk); (try clear hi))); try go_wp2_with (first | (go_at_call 14; (with_reducible refine (caduceusref04_Check.calls k _ _ l0 true _ ?side1 ?side2 A2.out).mono ?_); (case side1 => repeat (first | exact HR0.out | (with_reducible refine Kd.C_alloc ?_ _) | (with_reducible refine Kd.C_drewN ?_ _) | (with_reducible refine Kd.C_drew ?_))); (case side2 => exact HC0.out); rintro e w6 ⟨rfl, hb⟩; have n0_ := Aside0.mk (below_step (bwA) hb); clear HB; have HB := n0_; clear n0_; (try clear hb); (try clear hb2); (try clear hk); (try clear hi))))
   go_loopg [3, 4] k (fun kq v3 v4 w' => ∃ (x3_1 : ByteArray) (x4_1 : Int), v3 = .string x3_1 ∧ v4 = .int .i64 x4_1 ∧ Aside0 (caduceusref04_Show.l0 kq l0 x3_1 x4_1 = some r) ∧ Aside0 (kq ≤ k) ∧ Aside0 (Below w.heap.size w w'))
   case atStart => exact ⟨((⟨#[]⟩ : ByteArray)), (0), (endS), (endS), H', ⟨Nat.le_refl _⟩, ⟨bwA⟩⟩
   case round =>
    clear H'
    try clear c2
    try clear p2
    try clear c3
    try clear c4
    try clear c4b0
    try clear c4b1
    try clear c4b2
    obtain ⟨x3_1, x4_1, rfl, rfl, HA, HK1, HB⟩ := hrel
    cases gk with
    | zero => exact absurd HA.out (by simp [caduceusref04_Show.l0])
    | succ k1 =>
     have H := HA.out
     clear HA
     simp only [caduceusref04_Show.l0] at H
     by_cases c7 : x4_1 < (l0.length : Int)
     ·rw [if_pos c7] at H
      have c7b0 : decide (x4_1 < (l0.length : Int)) = true := decide_eq_true c7
      clear c7
      by_cases c8 : x4_1 > 0
      ·rw [if_pos c8] at H
       have c8b0 : decide (0 < x4_1) = true := decide_eq_true c8
       clear c8
       by_cases c9 : x3_1.size + 2 ≤ 9223372036854775807
       ·rw [if_pos c9] at H
        have c9b0 := eq_true c9
        have c9b1 : decide (x3_1.size + 2 ≤ 9223372036854775807) = true := decide_eq_true c9
        try have c9b2 : (9223372036854775807 < x3_1.size + 2) = False := eq_false (Nat.not_lt.2 c9)
        by_cases c10 : 0 ≤ x4_1
        ·rw [if_pos c10] at H
         have c10b0 : decide (0 ≤ x4_1) = true := decide_eq_true c10
         clear c10
         by_cases c11 : (x3_1 ++ (⟨#[44, 32]⟩ : ByteArray)).size + ((rd_T72 l0 x4_1).f0).size ≤ 9223372036854775807
         ·rw [if_pos c11] at H
          have c11b0 := eq_true c11
          have c11b1 : decide ((x3_1 ++ (⟨#[44, 32]⟩ : ByteArray)).size + ((rd_T72 l0 x4_1).f0).size ≤ 9223372036854775807) = true := decide_eq_true c11
          try have c11b2 : (9223372036854775807 < (x3_1 ++ (⟨#[44, 32]⟩ : ByteArray)).size + ((rd_T72 l0 x4_1).f0).size) = False := eq_false (Nat.not_lt.2 c11)
          try have c11b3 : (9223372036854775807 < x3_1.size + 2 + (rd_T72 l0 x4_1).f0.size) = False := eq_false (by have zz_ := c11; simp only [ByteArray.size_append] at zz_; have zy0_ : (⟨#[44, 32]⟩ : ByteArray).size = 2 := rfl; omega)
          by_cases c12 : ((x3_1 ++ (⟨#[44, 32]⟩ : ByteArray)) ++ ((rd_T72 l0 x4_1).f0)).size + 1 ≤ 9223372036854775807
          ·rw [if_pos c12] at H
           have c12b0 := eq_true c12
           have c12b1 : decide (((x3_1 ++ (⟨#[44, 32]⟩ : ByteArray)) ++ ((rd_T72 l0 x4_1).f0)).size + 1 ≤ 9223372036854775807) = true := decide_eq_true c12
           try have c12b2 : (9223372036854775807 < ((x3_1 ++ (⟨#[44, 32]⟩ : ByteArray)) ++ ((rd_T72 l0 x4_1).f0)).size + 1) = False := eq_false (Nat.not_lt.2 c12)
           try have c12b3 : (9223372036854775807 < x3_1.size + 2 + (rd_T72 l0 x4_1).f0.size + 1) = False := eq_false (by have zz_ := c12; simp only [ByteArray.size_append] at zz_; have zy0_ : (⟨#[44, 32]⟩ : ByteArray).size = 2 := rfl; omega)
           replace H := Option.bind_eq_some_iff.mp H
           obtain ⟨t390, A130, H⟩ := H
           replace H : (if (((x3_1 ++ (⟨#[44, 32]⟩ : ByteArray)) ++ ((rd_T72 l0 x4_1).f0)) ++ (⟨#[32]⟩ : ByteArray)).size + t390.size ≤ 9223372036854775807 then (if (rd_T72 l0 x4_1).f2 = true then (if ((((x3_1 ++ (⟨#[44, 32]⟩ : ByteArray)) ++ ((rd_T72 l0 x4_1).f0)) ++ (⟨#[32]⟩ : ByteArray)) ++ t390).size + 1 ≤ 9223372036854775807 then (caduceusref04_Show.l0 k1 l0 (((((x3_1 ++ (⟨#[44, 32]⟩ : ByteArray)) ++ ((rd_T72 l0 x4_1).f0)) ++ (⟨#[32]⟩ : ByteArray)) ++ t390) ++ (⟨#[33]⟩ : ByteArray)) (wrap64 (x4_1 + 1))) else (none)) else (caduceusref04_Show.l0 k1 l0 ((((x3_1 ++ (⟨#[44, 32]⟩ : ByteArray)) ++ ((rd_T72 l0 x4_1).f0)) ++ (⟨#[32]⟩ : ByteArray)) ++ t390) (wrap64 (x4_1 + 1)))) else (none)) = some r := H
           have A13 := Aside0.mk A130
           clear A130
           by_cases c14 : (((x3_1 ++ (⟨#[44, 32]⟩ : ByteArray)) ++ ((rd_T72 l0 x4_1).f0)) ++ (⟨#[32]⟩ : ByteArray)).size + t390.size ≤ 9223372036854775807
           ·rw [if_pos c14] at H
            have c14b0 := eq_true c14
            have c14b1 : decide ((((x3_1 ++ (⟨#[44, 32]⟩ : ByteArray)) ++ ((rd_T72 l0 x4_1).f0)) ++ (⟨#[32]⟩ : ByteArray)).size + t390.size ≤ 9223372036854775807) = true := decide_eq_true c14
            try have c14b2 : (9223372036854775807 < (((x3_1 ++ (⟨#[44, 32]⟩ : ByteArray)) ++ ((rd_T72 l0 x4_1).f0)) ++ (⟨#[32]⟩ : ByteArray)).size + t390.size) = False := eq_false (Nat.not_lt.2 c14)
            try have c14b3 : (9223372036854775807 < x3_1.size + 2 + (rd_T72 l0 x4_1).f0.size + 1 + t390.size) = False := eq_false (by have zz_ := c14; simp only [ByteArray.size_append] at zz_; have zy0_ : (⟨#[44, 32]⟩ : ByteArray).size = 2 := rfl; have zy1_ : (⟨#[32]⟩ : ByteArray).size = 1 := rfl; omega)
            obtain ⟨bq15, hbq15⟩ : ∃ b_ : Bool, b_ = ((rd_T72 l0 x4_1).f2) := ⟨_, rfl⟩
            replace H : (if bq15 = true then (if ((((x3_1 ++ (⟨#[44, 32]⟩ : ByteArray)) ++ ((rd_T72 l0 x4_1).f0)) ++ (⟨#[32]⟩ : ByteArray)) ++ t390).size + 1 ≤ 9223372036854775807 then (caduceusref04_Show.l0 k1 l0 (((((x3_1 ++ (⟨#[44, 32]⟩ : ByteArray)) ++ ((rd_T72 l0 x4_1).f0)) ++ (⟨#[32]⟩ : ByteArray)) ++ t390) ++ (⟨#[33]⟩ : ByteArray)) (wrap64 (x4_1 + 1))) else (none)) else (caduceusref04_Show.l0 k1 l0 ((((x3_1 ++ (⟨#[44, 32]⟩ : ByteArray)) ++ ((rd_T72 l0 x4_1).f0)) ++ (⟨#[32]⟩ : ByteArray)) ++ t390) (wrap64 (x4_1 + 1)))) = some r := by rw [← hbq15] at H; exact H
            have Nbq15 := Aside0.mk hbq15
            clear hbq15
            by_cases c16 : bq15 = true
            ·subst c16
             have H1 : (if ((((x3_1 ++ (⟨#[44, 32]⟩ : ByteArray)) ++ ((rd_T72 l0 x4_1).f0)) ++ (⟨#[32]⟩ : ByteArray)) ++ t390).size + 1 ≤ 9223372036854775807 then (caduceusref04_Show.l0 k1 l0 (((((x3_1 ++ (⟨#[44, 32]⟩ : ByteArray)) ++ ((rd_T72 l0 x4_1).f0)) ++ (⟨#[32]⟩ : ByteArray)) ++ t390) ++ (⟨#[33]⟩ : ByteArray)) (wrap64 (x4_1 + 1))) else (none)) = some r := by rw [if_pos rfl] at H; exact H
             clear H
             have H := H1
             clear H1
             by_cases c17 : ((((x3_1 ++ (⟨#[44, 32]⟩ : ByteArray)) ++ ((rd_T72 l0 x4_1).f0)) ++ (⟨#[32]⟩ : ByteArray)) ++ t390).size + 1 ≤ 9223372036854775807
             ·rw [if_pos c17] at H
              have c17b0 := eq_true c17
              have c17b1 : decide (((((x3_1 ++ (⟨#[44, 32]⟩ : ByteArray)) ++ ((rd_T72 l0 x4_1).f0)) ++ (⟨#[32]⟩ : ByteArray)) ++ t390).size + 1 ≤ 9223372036854775807) = true := decide_eq_true c17
              try have c17b2 : (9223372036854775807 < ((((x3_1 ++ (⟨#[44, 32]⟩ : ByteArray)) ++ ((rd_T72 l0 x4_1).f0)) ++ (⟨#[32]⟩ : ByteArray)) ++ t390).size + 1) = False := eq_false (Nat.not_lt.2 c17)
              try have c17b3 : (9223372036854775807 < x3_1.size + 2 + (rd_T72 l0 x4_1).f0.size + 1 + t390.size + 1) = False := eq_false (by have zz_ := c17; simp only [ByteArray.size_append] at zz_; have zy0_ : (⟨#[44, 32]⟩ : ByteArray).size = 2 := rfl; have zy1_ : (⟨#[32]⟩ : ByteArray).size = 1 := rfl; omega)
              have H' := Aside0.mk H
              clear H
              have p388 : 0 ≤ (x4_1 : Int) := odA
              have q388 : x4_1 < (l0.length : Int) := odA
              obtain ⟨ad388, e388, hx388_0, hx388_1, hx388_2⟩ := at_T72 HR0.out x4_1 p388 q388
              (try rw [← Nbq15.out] at hx388_2)
              cases e388
              replace hx388_0 := crA hx388_0
              replace hx388_1 := crA hx388_1
              replace hx388_2 := crA hx388_2
              replace p388 := eq_true p388
              replace q388 := eq_true q388
              have p389 : 0 ≤ (x4_1 : Int) := odA
              have q389 : x4_1 < (l0.length : Int) := odA
              obtain ⟨ad389, e389, hx389_0, hx389_1, hx389_2⟩ := at_T72 HR0.out x4_1 p389 q389
              (try rw [← Nbq15.out] at hx389_2)
              obtain rfl : ad388 = ad389 := (by injection e389)
              replace hx389_0 := crA hx389_0
              replace hx389_1 := crA hx389_1
              replace hx389_2 := crA hx389_2
              replace p389 := eq_true p389
              replace q389 := eq_true q389
              go_wp2_with (first | (go_at_call 59; (with_reducible refine (caduceusref04_word.calls ((rd_T72 l0 x4_1).f1) t390 _ A13.out).mono ?_); rintro e w' ⟨rfl, ⟨nd, rfl⟩⟩; (try first | exact ⟨rfl, _, World.drewN_drewN _ _ _⟩ | exact ⟨rfl, _, Eq.trans (World.drewN_drewN _ _ _) (congrArg (World.drewN _) (Nat.add_assoc _ _ _))⟩); have p391 : 0 ≤ (x4_1 : Int) := odA; have q391 : x4_1 < (l0.length : Int) := odA; obtain ⟨ad391, e391, hx391_0, hx391_1, hx391_2⟩ := at_T72 HR0.out x4_1 p391 q391; (try rw [← Nbq15.out] at hx391_2); obtain rfl : ad388 = ad391 := (by injection e391); replace hx391_0 := crA hx391_0; replace hx391_1 := crA hx391_1; replace hx391_2 := crA hx391_2; replace p391 := eq_true p391; replace q391 := eq_true q391))
              repeat (go_quiet (first | (go_at_call 59; (with_reducible refine (caduceusref04_word.calls ((rd_T72 l0 x4_1).f1) t390 _ A13.out).mono ?_); rintro e w' ⟨rfl, ⟨nd, rfl⟩⟩; (try first | exact ⟨rfl, _, World.drewN_drewN _ _ _⟩ | exact ⟨rfl, _, Eq.trans (World.drewN_drewN _ _ _) (congrArg (World.drewN _) (Nat.add_assoc _ _ _))⟩); have p391 : 0 ≤ (x4_1 : Int) := odA; have q391 : x4_1 < (l0.length : Int) := odA; obtain ⟨ad391, e391, hx391_0, hx391_1, hx391_2⟩ := at_T72 HR0.out x4_1 p391 q391; (try rw [← Nbq15.out] at hx391_2); obtain rfl : ad388 = ad391 := (by injection e391); replace hx391_0 := crA hx391_0; replace hx391_1 := crA hx391_1; replace hx391_2 := crA hx391_2; replace p391 := eq_true p391; replace q391 := eq_true q391)); try go_wp2_with (first | (go_at_call 59; (with_reducible refine (caduceusref04_word.calls ((rd_T72 l0 x4_1).f1) t390 _ A13.out).mono ?_); rintro e w' ⟨rfl, ⟨nd, rfl⟩⟩; (try first | exact ⟨rfl, _, World.drewN_drewN _ _ _⟩ | exact ⟨rfl, _, Eq.trans (World.drewN_drewN _ _ _) (congrArg (World.drewN _) (Nat.add_assoc _ _ _))⟩); have p391 : 0 ≤ (x4_1 : Int) := odA; have q391 : x4_1 < (l0.length : Int) := odA; obtain ⟨ad391, e391, hx391_0, hx391_1, hx391_2⟩ := at_T72 HR0.out x4_1 p391 q391; (try rw [← Nbq15.out] at hx391_2); obtain rfl : ad388 = ad391 := (by injection e391); replace hx391_0 := crA hx391_0; replace hx391_1 := crA hx391_1; replace hx391_2 := crA hx391_2; replace p391 := eq_true p391; replace q391 := eq_true q391)))
              go_roundg k1
              case measure => have := HK1.out; omega
              case rel => exact ⟨(((((x3_1 ++ (⟨#[44, 32]⟩ : ByteArray)) ++ ((rd_T72 l0 x4_1).f0)) ++ (⟨#[32]⟩ : ByteArray)) ++ t390) ++ (⟨#[33]⟩ : ByteArray)), (wrap64 (x4_1 + 1)), (endS), (endS), H', ⟨by have := HK1.out; omega⟩, ⟨bwA⟩⟩
             ·rw [if_neg c17] at H
              exact absurd H (by simp)
            ·replace c16 := Bool.eq_false_iff.mpr c16
             subst c16
             have H1 : (caduceusref04_Show.l0 k1 l0 ((((x3_1 ++ (⟨#[44, 32]⟩ : ByteArray)) ++ ((rd_T72 l0 x4_1).f0)) ++ (⟨#[32]⟩ : ByteArray)) ++ t390) (wrap64 (x4_1 + 1))) = some r := by rw [if_neg (show ¬ (false = true) by decide)] at H; exact H
             clear H
             have H := H1
             clear H1
             have H' := Aside0.mk H
             clear H
             have p388 : 0 ≤ (x4_1 : Int) := odA
             have q388 : x4_1 < (l0.length : Int) := odA
             obtain ⟨ad388, e388, hx388_0, hx388_1, hx388_2⟩ := at_T72 HR0.out x4_1 p388 q388
             (try rw [← Nbq15.out] at hx388_2)
             cases e388
             replace hx388_0 := crA hx388_0
             replace hx388_1 := crA hx388_1
             replace hx388_2 := crA hx388_2
             replace p388 := eq_true p388
             replace q388 := eq_true q388
             have p389 : 0 ≤ (x4_1 : Int) := odA
             have q389 : x4_1 < (l0.length : Int) := odA
             obtain ⟨ad389, e389, hx389_0, hx389_1, hx389_2⟩ := at_T72 HR0.out x4_1 p389 q389
             (try rw [← Nbq15.out] at hx389_2)
             obtain rfl : ad388 = ad389 := (by injection e389)
             replace hx389_0 := crA hx389_0
             replace hx389_1 := crA hx389_1
             replace hx389_2 := crA hx389_2
             replace p389 := eq_true p389
             replace q389 := eq_true q389
             go_wp2_with (first | (go_at_call 59; (with_reducible refine (caduceusref04_word.calls ((rd_T72 l0 x4_1).f1) t390 _ A13.out).mono ?_); rintro e w' ⟨rfl, ⟨nd, rfl⟩⟩; (try first | exact ⟨rfl, _, World.drewN_drewN _ _ _⟩ | exact ⟨rfl, _, Eq.trans (World.drewN_drewN _ _ _) (congrArg (World.drewN _) (Nat.add_assoc _ _ _))⟩); have p391 : 0 ≤ (x4_1 : Int) := odA; have q391 : x4_1 < (l0.length : Int) := odA; obtain ⟨ad391, e391, hx391_0, hx391_1, hx391_2⟩ := at_T72 HR0.out x4_1 p391 q391; (try rw [← Nbq15.out] at hx391_2); obtain rfl : ad388 = ad391 := (by injection e391); replace hx391_0 := crA hx391_0; replace hx391_1 := crA hx391_1; replace hx391_2 := crA hx391_2; replace p391 := eq_true p391; replace q391 := eq_true q391))
             repeat (go_quiet (first | (go_at_call 59; (with_reducible refine (caduceusref04_word.calls ((rd_T72 l0 x4_1).f1) t390 _ A13.out).mono ?_); rintro e w' ⟨rfl, ⟨nd, rfl⟩⟩; (try first | exact ⟨rfl, _, World.drewN_drewN _ _ _⟩ | exact ⟨rfl, _, Eq.trans (World.drewN_drewN _ _ _) (congrArg (World.drewN _) (Nat.add_assoc _ _ _))⟩); have p391 : 0 ≤ (x4_1 : Int) := odA; have q391 : x4_1 < (l0.length : Int) := odA; obtain ⟨ad391, e391, hx391_0, hx391_1, hx391_2⟩ := at_T72 HR0.out x4_1 p391 q391; (try rw [← Nbq15.out] at hx391_2); obtain rfl : ad388 = ad391 := (by injection e391); replace hx391_0 := crA hx391_0; replace hx391_1 := crA hx391_1; replace hx391_2 := crA hx391_2; replace p391 := eq_true p391; replace q391 := eq_true q391)); try go_wp2_with (first | (go_at_call 59; (with_reducible refine (caduceusref04_word.calls ((rd_T72 l0 x4_1).f1) t390 _ A13.out).mono ?_); rintro e w' ⟨rfl, ⟨nd, rfl⟩⟩; (try first | exact ⟨rfl, _, World.drewN_drewN _ _ _⟩ | exact ⟨rfl, _, Eq.trans (World.drewN_drewN _ _ _) (congrArg (World.drewN _) (Nat.add_assoc _ _ _))⟩); have p391 : 0 ≤ (x4_1 : Int) := odA; have q391 : x4_1 < (l0.length : Int) := odA; obtain ⟨ad391, e391, hx391_0, hx391_1, hx391_2⟩ := at_T72 HR0.out x4_1 p391 q391; (try rw [← Nbq15.out] at hx391_2); obtain rfl : ad388 = ad391 := (by injection e391); replace hx391_0 := crA hx391_0; replace hx391_1 := crA hx391_1; replace hx391_2 := crA hx391_2; replace p391 := eq_true p391; replace q391 := eq_true q391)))
             go_roundg k1
             case measure => have := HK1.out; omega
             case rel => exact ⟨((((x3_1 ++ (⟨#[44, 32]⟩ : ByteArray)) ++ ((rd_T72 l0 x4_1).f0)) ++ (⟨#[32]⟩ : ByteArray)) ++ t390), (wrap64 (x4_1 + 1)), (endS), (endS), H', ⟨by have := HK1.out; omega⟩, ⟨bwA⟩⟩
           ·rw [if_neg c14] at H
            exact absurd H (by simp)
          ·rw [if_neg c12] at H
           exact absurd H (by simp)
         ·rw [if_neg c11] at H
          exact absurd H (by simp)
        ·rw [if_neg c10] at H
         exact absurd H (by simp)
       ·rw [if_neg c9] at H
        exact absurd H (by simp)
      ·rw [if_neg c8] at H
       have c8b0 : decide (0 < x4_1) = false := decide_eq_false c8
       clear c8
       by_cases c18 : 0 ≤ x4_1
       ·rw [if_pos c18] at H
        have c18b0 : decide (0 ≤ x4_1) = true := decide_eq_true c18
        clear c18
        by_cases c19 : x3_1.size + ((rd_T72 l0 x4_1).f0).size ≤ 9223372036854775807
        ·rw [if_pos c19] at H
         have c19b0 := eq_true c19
         have c19b1 : decide (x3_1.size + ((rd_T72 l0 x4_1).f0).size ≤ 9223372036854775807) = true := decide_eq_true c19
         try have c19b2 : (9223372036854775807 < x3_1.size + ((rd_T72 l0 x4_1).f0).size) = False := eq_false (Nat.not_lt.2 c19)
         by_cases c20 : (x3_1 ++ ((rd_T72 l0 x4_1).f0)).size + 1 ≤ 9223372036854775807
         ·rw [if_pos c20] at H
          have c20b0 := eq_true c20
          have c20b1 : decide ((x3_1 ++ ((rd_T72 l0 x4_1).f0)).size + 1 ≤ 9223372036854775807) = true := decide_eq_true c20
          try have c20b2 : (9223372036854775807 < (x3_1 ++ ((rd_T72 l0 x4_1).f0)).size + 1) = False := eq_false (Nat.not_lt.2 c20)
          try have c20b3 : (9223372036854775807 < x3_1.size + (rd_T72 l0 x4_1).f0.size + 1) = False := eq_false (by have zz_ := c20; simp only [ByteArray.size_append] at zz_; skip; omega)
          replace H := Option.bind_eq_some_iff.mp H
          obtain ⟨t394, A210, H⟩ := H
          replace H : (if ((x3_1 ++ ((rd_T72 l0 x4_1).f0)) ++ (⟨#[32]⟩ : ByteArray)).size + t394.size ≤ 9223372036854775807 then (if (rd_T72 l0 x4_1).f2 = true then (if (((x3_1 ++ ((rd_T72 l0 x4_1).f0)) ++ (⟨#[32]⟩ : ByteArray)) ++ t394).size + 1 ≤ 9223372036854775807 then (caduceusref04_Show.l0 k1 l0 ((((x3_1 ++ ((rd_T72 l0 x4_1).f0)) ++ (⟨#[32]⟩ : ByteArray)) ++ t394) ++ (⟨#[33]⟩ : ByteArray)) (wrap64 (x4_1 + 1))) else (none)) else (caduceusref04_Show.l0 k1 l0 (((x3_1 ++ ((rd_T72 l0 x4_1).f0)) ++ (⟨#[32]⟩ : ByteArray)) ++ t394) (wrap64 (x4_1 + 1)))) else (none)) = some r := H
          have A21 := Aside0.mk A210
          clear A210
          by_cases c22 : ((x3_1 ++ ((rd_T72 l0 x4_1).f0)) ++ (⟨#[32]⟩ : ByteArray)).size + t394.size ≤ 9223372036854775807
          ·rw [if_pos c22] at H
           have c22b0 := eq_true c22
           have c22b1 : decide (((x3_1 ++ ((rd_T72 l0 x4_1).f0)) ++ (⟨#[32]⟩ : ByteArray)).size + t394.size ≤ 9223372036854775807) = true := decide_eq_true c22
           try have c22b2 : (9223372036854775807 < ((x3_1 ++ ((rd_T72 l0 x4_1).f0)) ++ (⟨#[32]⟩ : ByteArray)).size + t394.size) = False := eq_false (Nat.not_lt.2 c22)
           try have c22b3 : (9223372036854775807 < x3_1.size + (rd_T72 l0 x4_1).f0.size + 1 + t394.size) = False := eq_false (by have zz_ := c22; simp only [ByteArray.size_append] at zz_; have zy0_ : (⟨#[32]⟩ : ByteArray).size = 1 := rfl; omega)
           obtain ⟨bq23, hbq23⟩ : ∃ b_ : Bool, b_ = ((rd_T72 l0 x4_1).f2) := ⟨_, rfl⟩
           replace H : (if bq23 = true then (if (((x3_1 ++ ((rd_T72 l0 x4_1).f0)) ++ (⟨#[32]⟩ : ByteArray)) ++ t394).size + 1 ≤ 9223372036854775807 then (caduceusref04_Show.l0 k1 l0 ((((x3_1 ++ ((rd_T72 l0 x4_1).f0)) ++ (⟨#[32]⟩ : ByteArray)) ++ t394) ++ (⟨#[33]⟩ : ByteArray)) (wrap64 (x4_1 + 1))) else (none)) else (caduceusref04_Show.l0 k1 l0 (((x3_1 ++ ((rd_T72 l0 x4_1).f0)) ++ (⟨#[32]⟩ : ByteArray)) ++ t394) (wrap64 (x4_1 + 1)))) = some r := by rw [← hbq23] at H; exact H
           have Nbq23 := Aside0.mk hbq23
           clear hbq23
           by_cases c24 : bq23 = true
           ·subst c24
            have H1 : (if (((x3_1 ++ ((rd_T72 l0 x4_1).f0)) ++ (⟨#[32]⟩ : ByteArray)) ++ t394).size + 1 ≤ 9223372036854775807 then (caduceusref04_Show.l0 k1 l0 ((((x3_1 ++ ((rd_T72 l0 x4_1).f0)) ++ (⟨#[32]⟩ : ByteArray)) ++ t394) ++ (⟨#[33]⟩ : ByteArray)) (wrap64 (x4_1 + 1))) else (none)) = some r := by rw [if_pos rfl] at H; exact H
            clear H
            have H := H1
            clear H1
            by_cases c25 : (((x3_1 ++ ((rd_T72 l0 x4_1).f0)) ++ (⟨#[32]⟩ : ByteArray)) ++ t394).size + 1 ≤ 9223372036854775807
            ·rw [if_pos c25] at H
             have c25b0 := eq_true c25
             have c25b1 : decide ((((x3_1 ++ ((rd_T72 l0 x4_1).f0)) ++ (⟨#[32]⟩ : ByteArray)) ++ t394).size + 1 ≤ 9223372036854775807) = true := decide_eq_true c25
             try have c25b2 : (9223372036854775807 < (((x3_1 ++ ((rd_T72 l0 x4_1).f0)) ++ (⟨#[32]⟩ : ByteArray)) ++ t394).size + 1) = False := eq_false (Nat.not_lt.2 c25)
             try have c25b3 : (9223372036854775807 < x3_1.size + (rd_T72 l0 x4_1).f0.size + 1 + t394.size + 1) = False := eq_false (by have zz_ := c25; simp only [ByteArray.size_append] at zz_; have zy0_ : (⟨#[32]⟩ : ByteArray).size = 1 := rfl; omega)
             have H' := Aside0.mk H
             clear H
             have p392 : 0 ≤ (x4_1 : Int) := odA
             have q392 : x4_1 < (l0.length : Int) := odA
             obtain ⟨ad392, e392, hx392_0, hx392_1, hx392_2⟩ := at_T72 HR0.out x4_1 p392 q392
             (try rw [← Nbq23.out] at hx392_2)
             cases e392
             replace hx392_0 := crA hx392_0
             replace hx392_1 := crA hx392_1
             replace hx392_2 := crA hx392_2
             replace p392 := eq_true p392
             replace q392 := eq_true q392
             have p393 : 0 ≤ (x4_1 : Int) := odA
             have q393 : x4_1 < (l0.length : Int) := odA
             obtain ⟨ad393, e393, hx393_0, hx393_1, hx393_2⟩ := at_T72 HR0.out x4_1 p393 q393
             (try rw [← Nbq23.out] at hx393_2)
             obtain rfl : ad392 = ad393 := (by injection e393)
             replace hx393_0 := crA hx393_0
             replace hx393_1 := crA hx393_1
             replace hx393_2 := crA hx393_2
             replace p393 := eq_true p393
             replace q393 := eq_true q393
             go_wp2_with (first | (go_at_call 59; (with_reducible refine (caduceusref04_word.calls ((rd_T72 l0 x4_1).f1) t394 _ A21.out).mono ?_); rintro e w' ⟨rfl, ⟨nd, rfl⟩⟩; (try first | exact ⟨rfl, _, World.drewN_drewN _ _ _⟩ | exact ⟨rfl, _, Eq.trans (World.drewN_drewN _ _ _) (congrArg (World.drewN _) (Nat.add_assoc _ _ _))⟩); have p395 : 0 ≤ (x4_1 : Int) := odA; have q395 : x4_1 < (l0.length : Int) := odA; obtain ⟨ad395, e395, hx395_0, hx395_1, hx395_2⟩ := at_T72 HR0.out x4_1 p395 q395; (try rw [← Nbq23.out] at hx395_2); obtain rfl : ad392 = ad395 := (by injection e395); replace hx395_0 := crA hx395_0; replace hx395_1 := crA hx395_1; replace hx395_2 := crA hx395_2; replace p395 := eq_true p395; replace q395 := eq_true q395))
             repeat (go_quiet (first | (go_at_call 59; (with_reducible refine (caduceusref04_word.calls ((rd_T72 l0 x4_1).f1) t394 _ A21.out).mono ?_); rintro e w' ⟨rfl, ⟨nd, rfl⟩⟩; (try first | exact ⟨rfl, _, World.drewN_drewN _ _ _⟩ | exact ⟨rfl, _, Eq.trans (World.drewN_drewN _ _ _) (congrArg (World.drewN _) (Nat.add_assoc _ _ _))⟩); have p395 : 0 ≤ (x4_1 : Int) := odA; have q395 : x4_1 < (l0.length : Int) := odA; obtain ⟨ad395, e395, hx395_0, hx395_1, hx395_2⟩ := at_T72 HR0.out x4_1 p395 q395; (try rw [← Nbq23.out] at hx395_2); obtain rfl : ad392 = ad395 := (by injection e395); replace hx395_0 := crA hx395_0; replace hx395_1 := crA hx395_1; replace hx395_2 := crA hx395_2; replace p395 := eq_true p395; replace q395 := eq_true q395)); try go_wp2_with (first | (go_at_call 59; (with_reducible refine (caduceusref04_word.calls ((rd_T72 l0 x4_1).f1) t394 _ A21.out).mono ?_); rintro e w' ⟨rfl, ⟨nd, rfl⟩⟩; (try first | exact ⟨rfl, _, World.drewN_drewN _ _ _⟩ | exact ⟨rfl, _, Eq.trans (World.drewN_drewN _ _ _) (congrArg (World.drewN _) (Nat.add_assoc _ _ _))⟩); have p395 : 0 ≤ (x4_1 : Int) := odA; have q395 : x4_1 < (l0.length : Int) := odA; obtain ⟨ad395, e395, hx395_0, hx395_1, hx395_2⟩ := at_T72 HR0.out x4_1 p395 q395; (try rw [← Nbq23.out] at hx395_2); obtain rfl : ad392 = ad395 := (by injection e395); replace hx395_0 := crA hx395_0; replace hx395_1 := crA hx395_1; replace hx395_2 := crA hx395_2; replace p395 := eq_true p395; replace q395 := eq_true q395)))
             go_roundg k1
             case measure => have := HK1.out; omega
             case rel => exact ⟨((((x3_1 ++ ((rd_T72 l0 x4_1).f0)) ++ (⟨#[32]⟩ : ByteArray)) ++ t394) ++ (⟨#[33]⟩ : ByteArray)), (wrap64 (x4_1 + 1)), (endS), (endS), H', ⟨by have := HK1.out; omega⟩, ⟨bwA⟩⟩
            ·rw [if_neg c25] at H
             exact absurd H (by simp)
           ·replace c24 := Bool.eq_false_iff.mpr c24
            subst c24
            have H1 : (caduceusref04_Show.l0 k1 l0 (((x3_1 ++ ((rd_T72 l0 x4_1).f0)) ++ (⟨#[32]⟩ : ByteArray)) ++ t394) (wrap64 (x4_1 + 1))) = some r := by rw [if_neg (show ¬ (false = true) by decide)] at H; exact H
            clear H
            have H := H1
            clear H1
            have H' := Aside0.mk H
            clear H
            have p392 : 0 ≤ (x4_1 : Int) := odA
            have q392 : x4_1 < (l0.length : Int) := odA
            obtain ⟨ad392, e392, hx392_0, hx392_1, hx392_2⟩ := at_T72 HR0.out x4_1 p392 q392
            (try rw [← Nbq23.out] at hx392_2)
            cases e392
            replace hx392_0 := crA hx392_0
            replace hx392_1 := crA hx392_1
            replace hx392_2 := crA hx392_2
            replace p392 := eq_true p392
            replace q392 := eq_true q392
            have p393 : 0 ≤ (x4_1 : Int) := odA
            have q393 : x4_1 < (l0.length : Int) := odA
            obtain ⟨ad393, e393, hx393_0, hx393_1, hx393_2⟩ := at_T72 HR0.out x4_1 p393 q393
            (try rw [← Nbq23.out] at hx393_2)
            obtain rfl : ad392 = ad393 := (by injection e393)
            replace hx393_0 := crA hx393_0
            replace hx393_1 := crA hx393_1
            replace hx393_2 := crA hx393_2
            replace p393 := eq_true p393
            replace q393 := eq_true q393
            go_wp2_with (first | (go_at_call 59; (with_reducible refine (caduceusref04_word.calls ((rd_T72 l0 x4_1).f1) t394 _ A21.out).mono ?_); rintro e w' ⟨rfl, ⟨nd, rfl⟩⟩; (try first | exact ⟨rfl, _, World.drewN_drewN _ _ _⟩ | exact ⟨rfl, _, Eq.trans (World.drewN_drewN _ _ _) (congrArg (World.drewN _) (Nat.add_assoc _ _ _))⟩); have p395 : 0 ≤ (x4_1 : Int) := odA; have q395 : x4_1 < (l0.length : Int) := odA; obtain ⟨ad395, e395, hx395_0, hx395_1, hx395_2⟩ := at_T72 HR0.out x4_1 p395 q395; (try rw [← Nbq23.out] at hx395_2); obtain rfl : ad392 = ad395 := (by injection e395); replace hx395_0 := crA hx395_0; replace hx395_1 := crA hx395_1; replace hx395_2 := crA hx395_2; replace p395 := eq_true p395; replace q395 := eq_true q395))
            repeat (go_quiet (first | (go_at_call 59; (with_reducible refine (caduceusref04_word.calls ((rd_T72 l0 x4_1).f1) t394 _ A21.out).mono ?_); rintro e w' ⟨rfl, ⟨nd, rfl⟩⟩; (try first | exact ⟨rfl, _, World.drewN_drewN _ _ _⟩ | exact ⟨rfl, _, Eq.trans (World.drewN_drewN _ _ _) (congrArg (World.drewN _) (Nat.add_assoc _ _ _))⟩); have p395 : 0 ≤ (x4_1 : Int) := odA; have q395 : x4_1 < (l0.length : Int) := odA; obtain ⟨ad395, e395, hx395_0, hx395_1, hx395_2⟩ := at_T72 HR0.out x4_1 p395 q395; (try rw [← Nbq23.out] at hx395_2); obtain rfl : ad392 = ad395 := (by injection e395); replace hx395_0 := crA hx395_0; replace hx395_1 := crA hx395_1; replace hx395_2 := crA hx395_2; replace p395 := eq_true p395; replace q395 := eq_true q395)); try go_wp2_with (first | (go_at_call 59; (with_reducible refine (caduceusref04_word.calls ((rd_T72 l0 x4_1).f1) t394 _ A21.out).mono ?_); rintro e w' ⟨rfl, ⟨nd, rfl⟩⟩; (try first | exact ⟨rfl, _, World.drewN_drewN _ _ _⟩ | exact ⟨rfl, _, Eq.trans (World.drewN_drewN _ _ _) (congrArg (World.drewN _) (Nat.add_assoc _ _ _))⟩); have p395 : 0 ≤ (x4_1 : Int) := odA; have q395 : x4_1 < (l0.length : Int) := odA; obtain ⟨ad395, e395, hx395_0, hx395_1, hx395_2⟩ := at_T72 HR0.out x4_1 p395 q395; (try rw [← Nbq23.out] at hx395_2); obtain rfl : ad392 = ad395 := (by injection e395); replace hx395_0 := crA hx395_0; replace hx395_1 := crA hx395_1; replace hx395_2 := crA hx395_2; replace p395 := eq_true p395; replace q395 := eq_true q395)))
            go_roundg k1
            case measure => have := HK1.out; omega
            case rel => exact ⟨(((x3_1 ++ ((rd_T72 l0 x4_1).f0)) ++ (⟨#[32]⟩ : ByteArray)) ++ t394), (wrap64 (x4_1 + 1)), (endS), (endS), H', ⟨by have := HK1.out; omega⟩, ⟨bwA⟩⟩
          ·rw [if_neg c22] at H
           exact absurd H (by simp)
         ·rw [if_neg c20] at H
          exact absurd H (by simp)
        ·rw [if_neg c19] at H
         exact absurd H (by simp)
       ·rw [if_neg c18] at H
        exact absurd H (by simp)
     ·rw [if_neg c7] at H
      have c7b0 : decide (x4_1 < (l0.length : Int)) = false := decide_eq_false c7
      clear c7
      obtain rfl := Option.some.inj H
      go_wp2
      repeat (go_quiet (fail); try go_wp2)
      go_ret
      exact ⟨endA, bwA⟩
 ·replace c3 := Bool.eq_false_iff.mpr c3
  subst c3
  have H1 : (some (⟨#[]⟩ : ByteArray)) = some r := by rw [if_neg (show ¬ (false = true) by decide)] at H; exact H
  clear H
  have H := H1
  clear H1
  obtain rfl := Option.some.inj H
  go_enter Tryz.func27, Tryz.ntmps27
  go_wp2_with (first | (go_at_call 14; (with_reducible refine (caduceusref04_Check.calls k _ _ l0 false _ ?side1 ?side2 A2.out).mono ?_); (case side1 => repeat (first | exact HR0.out | (with_reducible refine Kd.C_alloc ?_ _) | (with_reducible refine Kd.C_drewN ?_ _) | (with_reducible refine Kd.C_drew ?_))); (case side2 => exact HC0.out); rintro e w26 ⟨rfl, hb⟩; have n0_ := Aside0.mk (below_step (bwA) hb); clear HB; have HB := n0_; clear n0_; (try clear hb); (try clear hb2); (try clear hk); (try clear hi)))
  repeat (go_quiet (first | (go_at_call 14; (with_reducible refine (caduceusref04_Check.calls k _ _ l0 false _ ?side1 ?side2 A2.out).mono ?_); (case side1 => repeat (first | exact HR0.out | (with_reducible refine Kd.C_alloc ?_ _) | (with_reducible refine Kd.C_drewN ?_ _) | (with_reducible refine Kd.C_drew ?_))); (case side2 => exact HC0.out); rintro e w26 ⟨rfl, hb⟩; have n0_ := Aside0.mk (below_step (bwA) hb); clear HB; have HB := n0_; clear n0_; (try clear hb); (try clear hb2); (try clear hk); (try clear hi))); try go_wp2_with (first | (go_at_call 14; (with_reducible refine (caduceusref04_Check.calls k _ _ l0 false _ ?side1 ?side2 A2.out).mono ?_); (case side1 => repeat (first | exact HR0.out | (with_reducible refine Kd.C_alloc ?_ _) | (with_reducible refine Kd.C_drewN ?_ _) | (with_reducible refine Kd.C_drew ?_))); (case side2 => exact HC0.out); rintro e w26 ⟨rfl, hb⟩; have n0_ := Aside0.mk (below_step (bwA) hb); clear HB; have HB := n0_; clear n0_; (try clear hb); (try clear hb2); (try clear hk); (try clear hi))))
  go_ret
  exact ⟨endA, bwA⟩

end Go.Proofs.YtnbbajiabbmdmaaGreatDoor.A
