-- By drv.py, the session's own driver round the kit's print: the machine's side of the laws, function by function. Not trusted: Lean checks it.
import Derived.Test.YtbbfggfiknbdmaaGreatDoorAx0
import Derived.Test.YtbbfggfiknbdmaaGreatDoorAx19
import Derived.Test.YtbbfggfiknbdmaaGreatDoorAx21
namespace Go.Proofs.YtbbfggfiknbdmaaGreatDoor.A
open Go.RowKit Go.Proofs.YtbbfggfiknbdmaaGreatDoorW.PrintWords Go.Proofs.YtbbfggfiknbdmaaGreatDoorW.PrintLast Go.Proofs.YtbbfggfiknbdmaaGreatDoorW.PrintMore
attribute [local go_sem] max2_int min2_int max_two min_two max_three min_three max_four min_four   -- for this text's walks alone
set_option linter.unusedVariables false
set_option linter.unusedSimpArgs false

/-! ### caduceusref04_Sort: function 7 -/
mutual
def caduceusref04_Sort.l0 : Nat → List (S52) → Int → Option ((List (S52)) × Int)
 | 0, _, _ => none
 | k + 1, x0, x4 => if x4 < (x0.length : Int) then (if 0 ≤ x4 then ((caduceusref04_may.f k ((rd_T52 x0 x4).f0) ((rd_T52 x0 x4).f1) ((rd_T52 x0 x4).f2)).bind fun t321 => (if t321 = true then (caduceusref04_Sort.l0 k x0 (wrap64 (x4 + 1))) else (some (([] : List (S52)), 1)))) else (none)) else (caduceusref04_Sort.l1 k x0 ([] : List (S52)) 0)
def caduceusref04_Sort.l1 : Nat → List (S52) → List (S52) → Int → Option ((List (S52)) × Int)
 | 0, _, _, _ => none
 | k + 1, x0, x5, x6 => if x6 < (x0.length : Int) then (caduceusref04_Sort.l2 k x0 x5 x6 ([] : List (S52)) false 0) else (some (x5, 0))
def caduceusref04_Sort.l2 : Nat → List (S52) → List (S52) → Int → List (S52) → Bool → Int → Option ((List (S52)) × Int)
 | 0, _, _, _, _, _, _ => none
 | k + 1, x0, x5, x6, x7, x8, x9 => if x9 < (x5.length : Int) then (if 0 ≤ x9 then (if 0 ≤ x6 then (if x6 < (x0.length : Int) then ((caduceusref04_same.f k ((rd_T52 x5 x9).f0) ((rd_T52 x0 x6).f0)).bind fun t328 => (if t328 = true then (some (([] : List (S52)), 9)) else (if x8 = true then (if x7.length < 4398046511104 then (caduceusref04_Sort.l2 k x0 x5 x6 (x7 ++ [(⟨(rd_T52 x5 x9).f0, (rd_T52 x5 x9).f1, (rd_T52 x5 x9).f2⟩ : S52)]) x8 (wrap64 (x9 + 1))) else (none)) else ((caduceusref02_Compare.f k ((rd_T52 x0 x6).f0) ((rd_T52 x5 x9).f0)).bind fun t335 => (if t335 < 0 then (if x7.length < 4398046511104 then ((some (x7 ++ [(⟨(rd_T52 x0 x6).f0, (rd_T52 x0 x6).f1, (rd_T52 x0 x6).f2⟩ : S52)] : List (S52))).bind fun y337 => (if y337.length < 4398046511104 then (caduceusref04_Sort.l2 k x0 x5 x6 (y337 ++ [(⟨(rd_T52 x5 x9).f0, (rd_T52 x5 x9).f1, (rd_T52 x5 x9).f2⟩ : S52)]) true (wrap64 (x9 + 1))) else (none))) else (none)) else (if x7.length < 4398046511104 then (caduceusref04_Sort.l2 k x0 x5 x6 (x7 ++ [(⟨(rd_T52 x5 x9).f0, (rd_T52 x5 x9).f1, (rd_T52 x5 x9).f2⟩ : S52)]) x8 (wrap64 (x9 + 1))) else (none))))))) else (none)) else (none)) else (none)) else (if x8 = true then (caduceusref04_Sort.l1 k x0 x7 (wrap64 (x6 + 1))) else (if 0 ≤ x6 then (if x6 < (x0.length : Int) then (if x7.length < 4398046511104 then (caduceusref04_Sort.l1 k x0 (x7 ++ [(⟨(rd_T52 x0 x6).f0, (rd_T52 x0 x6).f1, (rd_T52 x0 x6).f2⟩ : S52)]) (wrap64 (x6 + 1))) else (none)) else (none)) else (none)))
end
def caduceusref04_Sort.f (k : Nat) (l0 : List (S52)) : Option ((List (S52)) × Int) := if (l0.length : Int) > 24 then (some (([] : List (S52)), 2)) else (caduceusref04_Sort.l0 k l0 0)
theorem caduceusref04_Sort.mono_l : ∀ k, (∀ y0 y1, LeO (caduceusref04_Sort.l0 k y0 y1) (caduceusref04_Sort.l0 (k + 1) y0 y1)) ∧ (∀ y0 y1 y2, LeO (caduceusref04_Sort.l1 k y0 y1 y2) (caduceusref04_Sort.l1 (k + 1) y0 y1 y2)) ∧ (∀ y0 y1 y2 y3 y4 y5, LeO (caduceusref04_Sort.l2 k y0 y1 y2 y3 y4 y5) (caduceusref04_Sort.l2 (k + 1) y0 y1 y2 y3 y4 y5))
 | 0 => ⟨fun _ _ r h => by simp [caduceusref04_Sort.l0] at h, fun _ _ _ r h => by simp [caduceusref04_Sort.l1] at h, fun _ _ _ _ _ _ r h => by simp [caduceusref04_Sort.l2] at h⟩
 | k + 1 => by
  obtain ⟨ih0, ih1, ih2⟩ := caduceusref04_Sort.mono_l k
  refine ⟨?_, ?_, ?_⟩
  all_goals intros
  all_goals first | unfold caduceusref04_Sort.l0 | unfold caduceusref04_Sort.l1 | unfold caduceusref04_Sort.l2
  all_goals repeat' first
   | (with_reducible exact ih0 _ _)
   | (with_reducible exact ih1 _ _ _)
   | (with_reducible exact ih2 _ _ _ _ _ _)
   | (with_reducible exact caduceusref02_Compare.mono _ _ _)
   | (with_reducible exact caduceusref04_may.mono _ _ _ _)
   | (with_reducible exact caduceusref04_same.mono _ _ _)
   | (with_reducible exact LeO.refl _)
   | (with_reducible exact LeO.none _)
   | (with_reducible refine LeO.ite ?_ ?_)
   | (with_reducible refine LeO.bind ?_ (fun _ => ?_))
   | exact ih0 _ _
   | exact ih1 _ _ _
   | exact ih2 _ _ _ _ _ _
   | exact caduceusref02_Compare.mono _ _ _
   | exact caduceusref04_may.mono _ _ _ _
   | exact caduceusref04_same.mono _ _ _
   | exact LeO.none _
   | refine LeO.ite ?_ ?_
   | refine LeO.bind ?_ (fun _ => ?_)
theorem caduceusref04_Sort.mono : ∀ a0 k, LeO (caduceusref04_Sort.f k a0) (caduceusref04_Sort.f (k + 1) a0) := by
 intro a0 k
 obtain ⟨ih0, ih1, ih2⟩ := caduceusref04_Sort.mono_l k
 unfold caduceusref04_Sort.f
 repeat' first
   | (with_reducible exact ih0 _ _)
   | (with_reducible exact ih1 _ _ _)
   | (with_reducible exact ih2 _ _ _ _ _ _)
   | (with_reducible exact caduceusref02_Compare.mono _ _ _)
   | (with_reducible exact caduceusref04_may.mono _ _ _ _)
   | (with_reducible exact caduceusref04_same.mono _ _ _)
   | (with_reducible exact LeO.refl _)
   | (with_reducible exact LeO.none _)
   | (with_reducible refine LeO.ite ?_ ?_)
   | (with_reducible refine LeO.bind ?_ (fun _ => ?_))
   | exact ih0 _ _
   | exact ih1 _ _ _
   | exact ih2 _ _ _ _ _ _
   | exact caduceusref02_Compare.mono _ _ _
   | exact caduceusref04_may.mono _ _ _ _
   | exact caduceusref04_same.mono _ _ _
   | exact LeO.none _
   | refine LeO.ite ?_ ?_
   | refine LeO.bind ?_ (fun _ => ?_)
def caduceusref04_Sort.T17 : Bool × List (List Nat × List Nat) := (true, [([], []), ([], []), ([0, 1], [0, 1]), ([2], [2]), ([3], [3]), ([], []), ([], []), ([5, 6], [5, 6]), ([7], [7]), ([8], [8]), ([4, 9], [4, 9])])
def caduceusref04_Sort.B17 : List Nat := [0, 0, 3, 7, 15, 0, 0, 96, 224, 480, 1023]
theorem caduceusref04_Sort.tab17 : rtab .any (opsOf Tryz.f7 17) = caduceusref04_Sort.T17 := by kernel_rfl
theorem caduceusref04_Sort.bits17 : waitsOk caduceusref04_Sort.T17.2 caduceusref04_Sort.B17 = true := by kernel_rfl
def caduceusref04_Sort.T19 : Bool × List (List Nat × List Nat) := (true, [([], []), ([0], [0]), ([1], [1]), ([2], [2]), ([2], [2]), ([3, 4, 2], [2, 3, 4]), ([5, 2], [2, 5]), ([6, 2], [2, 6]), ([2], [2]), ([2], [2]), ([8, 9, 2], [2, 8, 9]), ([10, 2], [2, 10]), ([11, 2], [2, 11]), ([7, 12, 2, 2], [2, 7, 12]), ([13, 2], [2, 13]), ([2, 14], [2, 14])])
def caduceusref04_Sort.B19 : List Nat := [0, 1, 3, 7, 7, 31, 63, 127, 7, 7, 775, 1799, 3847, 8191, 16383, 32767]
theorem caduceusref04_Sort.tab19 : rtab .any (opsOf Tryz.f7 19) = caduceusref04_Sort.T19 := by kernel_rfl
theorem caduceusref04_Sort.bits19 : waitsOk caduceusref04_Sort.T19.2 caduceusref04_Sort.B19 = true := by kernel_rfl
set_option maxHeartbeats 8000000 in
set_option maxRecDepth 100000 in
theorem caduceusref04_Sort.calls (k : Nat) (A0 : Option Addr) (c0 : Nat) (l0 : List (S52)) (r1 : List (S52)) (r2 : Int) (w : World) (hr0 : Kd.C k52 w A0 l0.length l0) (hc0 : l0.length ≤ c0) (h : caduceusref04_Sort.f k l0 = some (r1, r2)) :
  Calls Tryz.prog 7 #[.slice A0 l0.length c0] w fun e w' => ∃ v0_ : Value, e = .returned (.tuple #[v0_, .int .i64 r2]) ∧ Kd.R k52 52 w' w.heap.size (fun _ => True) v0_ r1 ∧ Below w.heap.size w w' := by
 have hu52 := Tryz.underlying52
 have HR0 := Aside0.mk hr0
 have HC0 := Aside0.mk hc0
 clear hr0 hc0
 have HB := Aside0.mk (Below.refl w.heap.size w)
 have H : (if (l0.length : Int) > 24 then (some (([] : List (S52)), 2)) else (caduceusref04_Sort.l0 k l0 0)) = some (r1, r2) := h
 clear h
 by_cases c2 : (l0.length : Int) > 24
 ·rw [if_pos c2] at H
  have c2b0 : decide (24 < (l0.length : Int)) = true := decide_eq_true c2
  have c2b1 : decide (24 < l0.length) = true := decide_eq_true (by omega)
  clear c2
  simp only [Option.some.injEq, Prod.mk.injEq] at H
  obtain ⟨rfl, rfl⟩ := H
  go_enter Tryz.func7, Tryz.ntmps7
  go_wp2
  go_ret2
  exact ⟨_, endA, by first | exact Kd.R_nil _ _ _ _ _ | exact Kd.N_nil _ _ _ _ _ | exact Kd.V_nil _ _ _ _ _ | exact Kd.Q_nil _ _ _ _ _ | exact Kd.S_nil _ _ _ _ _, bwA⟩
 ·rw [if_neg c2] at H
  have c2b0 : decide (24 < (l0.length : Int)) = false := decide_eq_false c2
  have c2b1 : decide (24 < l0.length) = false := decide_eq_false (by omega)
  clear c2
  have H' := Aside0.mk H
  clear H
  go_enter Tryz.func7, Tryz.ntmps7
  go_wp2
  go_loopg [4] k (fun kq v4 w' => ∃ (x4_1 : Int), v4 = .int .i64 x4_1 ∧ Aside0 (caduceusref04_Sort.l0 kq l0 x4_1 = some (r1, r2)) ∧ Aside0 (kq ≤ k) ∧ Aside0 (Below w.heap.size w w'))
  case atStart => exact ⟨(0), (endS), H', ⟨Nat.le_refl _⟩, ⟨bwA⟩⟩
  case round =>
   clear H'
   try clear c2
   try clear c2b0
   try clear c2b1
   try clear p2
   obtain ⟨x4_1, rfl, HA, HK1, HB⟩ := hrel
   cases gk with
   | zero => exact absurd HA.out (by simp [caduceusref04_Sort.l0])
   | succ k1 =>
    have H := HA.out
    clear HA
    simp only [caduceusref04_Sort.l0] at H
    by_cases c3 : x4_1 < (l0.length : Int)
    ·rw [if_pos c3] at H
     have c3b0 : decide (x4_1 < (l0.length : Int)) = true := decide_eq_true c3
     clear c3
     by_cases c4 : 0 ≤ x4_1
     ·rw [if_pos c4] at H
      have c4b0 : decide (0 ≤ x4_1) = true := decide_eq_true c4
      clear c4
      replace H := Option.bind_eq_some_iff.mp H
      obtain ⟨t321, A50, H⟩ := H
      replace H : (if t321 = true then (caduceusref04_Sort.l0 k1 l0 (wrap64 (x4_1 + 1))) else (some (([] : List (S52)), 1))) = some (r1, r2) := H
      have A5 := Aside0.mk A50
      clear A50
      by_cases c6 : t321 = true
      ·subst c6
       have H1 : (caduceusref04_Sort.l0 k1 l0 (wrap64 (x4_1 + 1))) = some (r1, r2) := by rw [if_pos rfl] at H; exact H
       clear H
       have H := H1
       clear H1
       have H' := Aside0.mk H
       clear H
       have p320 : 0 ≤ (x4_1 : Int) := odA
       have q320 : x4_1 < (l0.length : Int) := odA
       obtain ⟨ad320, e320, hx320_0, hx320_1, hx320_2⟩ := at_T52 HR0.out x4_1 p320 q320
       cases e320
       replace hx320_0 := crA hx320_0
       replace hx320_1 := crA hx320_1
       replace hx320_2 := crA hx320_2
       replace p320 := eq_true p320
       replace q320 := eq_true q320
       go_wp2_with (first | ((with_reducible refine gate_callee (f := 23) rfl ?_); refine goesA (some 23) Tryz.func23 #[.agg #[.string ((rd_T52 l0 x4_1).f0), .int .i64 ((rd_T52 l0 x4_1).f1), .bool ((rd_T52 l0 x4_1).f2)]] ?_; (with_reducible refine (caduceusref04_may.calls k1 ((rd_T52 l0 x4_1).f0) ((rd_T52 l0 x4_1).f1) ((rd_T52 l0 x4_1).f2) true _ A5.out).mono ?_); rintro e w7 ⟨rfl, hb⟩; refine ⟨_, rfl, ?_⟩; have n0_ := Aside0.mk (below_step (bwA) hb); clear HB; have HB := n0_; clear n0_; (try clear hb); (try clear hb2); (try clear hk); (try clear hi)))
       go_roundg k1
       case measure => have := HK1.out; omega
       case rel => exact ⟨(wrap64 (x4_1 + 1)), (endS), H', ⟨by have := HK1.out; omega⟩, ⟨bwA⟩⟩
      ·replace c6 := Bool.eq_false_iff.mpr c6
       subst c6
       have H1 : (some (([] : List (S52)), 1)) = some (r1, r2) := by rw [if_neg (show ¬ (false = true) by decide)] at H; exact H
       clear H
       have H := H1
       clear H1
       simp only [Option.some.injEq, Prod.mk.injEq] at H
       obtain ⟨rfl, rfl⟩ := H
       have p320 : 0 ≤ (x4_1 : Int) := odA
       have q320 : x4_1 < (l0.length : Int) := odA
       obtain ⟨ad320, e320, hx320_0, hx320_1, hx320_2⟩ := at_T52 HR0.out x4_1 p320 q320
       cases e320
       replace hx320_0 := crA hx320_0
       replace hx320_1 := crA hx320_1
       replace hx320_2 := crA hx320_2
       replace p320 := eq_true p320
       replace q320 := eq_true q320
       go_wp2_with (first | ((with_reducible refine gate_callee (f := 23) rfl ?_); refine goesA (some 23) Tryz.func23 #[.agg #[.string ((rd_T52 l0 x4_1).f0), .int .i64 ((rd_T52 l0 x4_1).f1), .bool ((rd_T52 l0 x4_1).f2)]] ?_; (with_reducible refine (caduceusref04_may.calls k1 ((rd_T52 l0 x4_1).f0) ((rd_T52 l0 x4_1).f1) ((rd_T52 l0 x4_1).f2) false _ A5.out).mono ?_); rintro e w8 ⟨rfl, hb⟩; refine ⟨_, rfl, ?_⟩; have n0_ := Aside0.mk (below_step (bwA) hb); clear HB; have HB := n0_; clear n0_; (try clear hb); (try clear hb2); (try clear hk); (try clear hi)))
       go_ret2
       exact ⟨_, endA, by first | exact Kd.R_nil _ _ _ _ _ | exact Kd.N_nil _ _ _ _ _ | exact Kd.V_nil _ _ _ _ _ | exact Kd.Q_nil _ _ _ _ _ | exact Kd.S_nil _ _ _ _ _, bwA⟩
     ·rw [if_neg c4] at H
      exact absurd H (by simp)
    ·rw [if_neg c3] at H
     have c3b0 : decide (x4_1 < (l0.length : Int)) = false := decide_eq_false c3
     clear c3
     have H' := Aside0.mk H
     clear H
     go_wp2
     go_loopg [5, 6] k1 (fun kq v5 v6 w' => ∃ (x5_2 : List (S52)) (x6_2 : Int), v6 = .int .i64 x6_2 ∧ Aside0 (caduceusref04_Sort.l1 kq l0 x5_2 x6_2 = some (r1, r2)) ∧ Aside0 (kq ≤ k1) ∧ Aside0 (Kd.R k52 52 w' w.heap.size (fun _ => True) v5 x5_2) ∧ Aside0 (Below w.heap.size w w'))
     case atStart => exact ⟨(([] : List (S52))), (0), (endS), H', ⟨Nat.le_refl _⟩, ⟨by first | exact Kd.R_nil _ _ _ _ _ | exact Kd.N_nil _ _ _ _ _ | exact Kd.V_nil _ _ _ _ _ | exact Kd.Q_nil _ _ _ _ _ | exact Kd.S_nil _ _ _ _ _⟩, ⟨bwA⟩⟩
     case round =>
      clear H'
      try clear c2
      try clear c2b0
      try clear c2b1
      try clear p2
      try clear c3
      try clear c3b0
      try clear p3
      try clear q3
      try clear hx3
      try clear c4
      try clear c4b0
      try clear c6
      try clear p6
      try clear c7
      try clear hx320_0
      try clear hx320_1
      try clear hx320_2
      try clear p2
      try clear p320
      try clear q320
      obtain ⟨x5_2, x6_2, rfl, HA, HK2, HO_5, HB⟩ := hrel
      cases gk with
      | zero => exact absurd HA.out (by simp [caduceusref04_Sort.l1])
      | succ k2 =>
       have H := HA.out
       clear HA
       simp only [caduceusref04_Sort.l1] at H
       by_cases c9 : x6_2 < (l0.length : Int)
       ·rw [if_pos c9] at H
        have c9b0 : decide (x6_2 < (l0.length : Int)) = true := decide_eq_true c9
        clear c9
        have H' := Aside0.mk H
        clear H
        go_wp2
        go_loopg [7, 8, 9] k2 (fun kq v7 v8 v9 w' => ∃ (x7_3 : List (S52)) (x8_3 : Bool) (x9_3 : Int), v8 = .bool x8_3 ∧ v9 = .int .i64 x9_3 ∧ Aside0 (caduceusref04_Sort.l2 kq l0 x5_2 x6_2 x7_3 x8_3 x9_3 = some (r1, r2)) ∧ Aside0 (kq ≤ k2) ∧ Aside0 (Kd.R k52 52 w' w.heap.size (fun k_ => some k_ ≠ (v7 : Value).ownBlock) u5 x5_2) ∧ Aside0 (Kd.R k52 52 w' w.heap.size (fun k_ => some k_ ≠ (u5 : Value).ownBlock) v7 x7_3) ∧ Aside0 (Below w.heap.size w w'))
        case atStart => exact ⟨(([] : List (S52))), (false), (0), (endS), (endS), H', ⟨Nat.le_refl _⟩, ⟨by (with_reducible repeat (first | apply Kd.R_alloc | apply Kd.R_drewN | apply Kd.R_drew)); exact Kd.R_mono HO_5.out (fun _ hk => (by simp [Value.ownBlock]))⟩, ⟨by first | exact Kd.R_nil _ _ _ _ _ | exact Kd.N_nil _ _ _ _ _ | exact Kd.V_nil _ _ _ _ _ | exact Kd.Q_nil _ _ _ _ _ | exact Kd.S_nil _ _ _ _ _⟩, ⟨bwA⟩⟩
        case round =>
         clear H'
         try clear c2
         try clear c2b0
         try clear c2b1
         try clear p2
         try clear c3
         try clear c3b0
         try clear p3
         try clear q3
         try clear hx3
         try clear c4
         try clear c4b0
         try clear c6
         try clear p6
         try clear c7
         try clear c9
         try clear c9b0
         try clear hx320_0
         try clear hx320_1
         try clear hx320_2
         try clear p2
         try clear p3
         try clear p320
         try clear p6
         try clear q3
         try clear q320
         obtain ⟨x7_3, x8_3, x9_3, rfl, rfl, HA, HK3, HO_5, HO_7, HB⟩ := hrel
         cases gk with
         | zero => exact absurd HA.out (by simp [caduceusref04_Sort.l2])
         | succ k3 =>
          have H := HA.out
          clear HA
          simp only [caduceusref04_Sort.l2] at H
          by_cases c10 : x9_3 < (x5_2.length : Int)
          ·rw [if_pos c10] at H
           have c10b0 : decide (x9_3 < (x5_2.length : Int)) = true := decide_eq_true c10
           clear c10
           by_cases c11 : 0 ≤ x9_3
           ·rw [if_pos c11] at H
            have c11b0 : decide (0 ≤ x9_3) = true := decide_eq_true c11
            clear c11
            by_cases c12 : 0 ≤ x6_2
            ·rw [if_pos c12] at H
             have c12b0 : decide (0 ≤ x6_2) = true := decide_eq_true c12
             clear c12
             by_cases c13 : x6_2 < (l0.length : Int)
             ·rw [if_pos c13] at H
              have c13b0 : decide (x6_2 < (l0.length : Int)) = true := decide_eq_true c13
              clear c13
              replace H := Option.bind_eq_some_iff.mp H
              obtain ⟨t328, A140, H⟩ := H
              replace H : (if t328 = true then (some (([] : List (S52)), 9)) else (if x8_3 = true then (if x7_3.length < 4398046511104 then (caduceusref04_Sort.l2 k3 l0 x5_2 x6_2 (x7_3 ++ [(⟨(rd_T52 x5_2 x9_3).f0, (rd_T52 x5_2 x9_3).f1, (rd_T52 x5_2 x9_3).f2⟩ : S52)]) x8_3 (wrap64 (x9_3 + 1))) else (none)) else ((caduceusref02_Compare.f k3 ((rd_T52 l0 x6_2).f0) ((rd_T52 x5_2 x9_3).f0)).bind fun t335 => (if t335 < 0 then (if x7_3.length < 4398046511104 then ((some (x7_3 ++ [(⟨(rd_T52 l0 x6_2).f0, (rd_T52 l0 x6_2).f1, (rd_T52 l0 x6_2).f2⟩ : S52)] : List (S52))).bind fun y337 => (if y337.length < 4398046511104 then (caduceusref04_Sort.l2 k3 l0 x5_2 x6_2 (y337 ++ [(⟨(rd_T52 x5_2 x9_3).f0, (rd_T52 x5_2 x9_3).f1, (rd_T52 x5_2 x9_3).f2⟩ : S52)]) true (wrap64 (x9_3 + 1))) else (none))) else (none)) else (if x7_3.length < 4398046511104 then (caduceusref04_Sort.l2 k3 l0 x5_2 x6_2 (x7_3 ++ [(⟨(rd_T52 x5_2 x9_3).f0, (rd_T52 x5_2 x9_3).f1, (rd_T52 x5_2 x9_3).f2⟩ : S52)]) x8_3 (wrap64 (x9_3 + 1))) else (none)))))) = some (r1, r2) := H
              have A14 := Aside0.mk A140
              clear A140
              by_cases c15 : t328 = true
              ·subst c15
               have H1 : (some (([] : List (S52)), 9)) = some (r1, r2) := by rw [if_pos rfl] at H; exact H
               clear H
               have H := H1
               clear H1
               simp only [Option.some.injEq, Prod.mk.injEq] at H
               obtain ⟨rfl, rfl⟩ := H
               obtain ⟨Ao16, co16, eo16⟩ := Kd.R_slice HO_5.out
               subst eo16
               try go_wp2
               have n0_ := Aside0.mk (Kd.R_drew HO_5.out)
               have n1_ := Aside0.mk (Kd.R_drew HO_7.out)
               have n2_ := Aside0.mk (below_drew1 HB.out)
               clear HO_5
               clear HO_7
               clear HB
               have HO_5 := n0_
               have HO_7 := n1_
               have HB := n2_
               clear n0_ n1_ n2_
               have p326 : 0 ≤ (x9_3 : Int) := odA
               have q326 : x9_3 < (x5_2.length : Int) := odA
               obtain ⟨ad326, e326, hx326_0, hx326_1, hx326_2⟩ := at_T52 (Kd.R_reads' HO_5.out).2.2 x9_3 p326 q326
               cases e326
               replace p326 := eq_true p326
               replace q326 := eq_true q326
               have p327 : 0 ≤ (x6_2 : Int) := odA
               have q327 : x6_2 < (l0.length : Int) := odA
               obtain ⟨ad327, e327, hx327_0, hx327_1, hx327_2⟩ := at_T52 HR0.out x6_2 p327 q327
               have hw327_2 := hx327_2
               have hw327_1 := hx327_1
               have hw327_0 := hx327_0
               cases e327
               replace hx327_0 := crA hx327_0
               replace hx327_1 := crA hx327_1
               replace hx327_2 := crA hx327_2
               replace p327 := eq_true p327
               replace q327 := eq_true q327
               refine start_ (n := 11) (S := fun w' => w'.cell? (ad326.add ((x9_3).toNat * 3)) = some (.string ((rd_T52 x5_2 x9_3).f0)) ∧ w'.cell? ⟨(ad326.add ((x9_3).toNat * 3)).block, (ad326.add ((x9_3).toNat * 3)).off + 1, none⟩ = some (.int .i64 ((rd_T52 x5_2 x9_3).f1)) ∧ w'.cell? ⟨(ad326.add ((x9_3).toNat * 3)).block, (ad326.add ((x9_3).toNat * 3)).off + 2, none⟩ = some (.bool ((rd_T52 x5_2 x9_3).f2)) ∧ w'.cell? (ad327.add ((x6_2).toNat * 3)) = some (.string ((rd_T52 l0 x6_2).f0)) ∧ w'.cell? ⟨(ad327.add ((x6_2).toNat * 3)).block, (ad327.add ((x6_2).toNat * 3)).off + 1, none⟩ = some (.int .i64 ((rd_T52 l0 x6_2).f1)) ∧ w'.cell? ⟨(ad327.add ((x6_2).toNat * 3)).block, (ad327.add ((x6_2).toNat * 3)).off + 2, none⟩ = some (.bool ((rd_T52 l0 x6_2).f2))) (ds := []) (mkB 11 0) (by kernel_rfl) rfl rfl ⟨hx326_0, hx326_1, hx326_2, crA hw327_0, crA hw327_1, crA hw327_2⟩ (fun hHeld => ?_); refine with_tabW caduceusref04_Sort.tab17 caduceusref04_Sort.bits17 (fun HT_ HW_ => ?_)
               generalize wr.drew = w17 at HO_5 HO_7 HB hx326_0 hx326_1 hx326_2 hx327_0 hx327_1 hx327_2 hHeld ⊢
               refine pureA 0 (some 37) (mkB 11 1) ?_
               refine pureA 1 (some 38) (mkB 11 3) ?_
               refine pureA 2 (some 39) (mkB 11 7) ?_
               refine pureA 3 (some 40) (mkB 11 15) ?_
               refine pureA 5 (some 42) (mkB 11 47) ?_
               refine pureA 6 (some 43) (mkB 11 111) ?_
               refine pureA 7 (some 44) (mkB 11 239) ?_
               refine pureA 8 (some 45) (mkB 11 495) ?_
               refine takeA 4 (some 41) (mkB 11 511) ?_ rfl (Or.inl ⟨by rfl, by rintro w' ⟨s0, s1, s2, s3, s4, s5⟩; go_simp; with_reducible rfl⟩)
               refine takeA 9 (some 46) (mkB 11 1023) ?_ rfl (Or.inl ⟨by rfl, by rintro w' ⟨s0, s1, s2, s3, s4, s5⟩; go_simp; with_reducible rfl⟩)
               refine oneA 10 (some 47) (mkB 11 2047) (fun K hK => ?_)
               refine goes_ Tryz.func24 (by kernel_rfl) rfl #[.string ((rd_T52 x5_2 x9_3).f0), .string ((rd_T52 l0 x6_2).f0)] (by rfl) rfl rfl (by (try simp only [List.map_toArray, List.map_cons, List.map_nil]); first | done | rfl | (simp only [List.length_drop, List.length_take]; rfl)) ?_
               with_reducible refine (caduceusref04_same.calls k3 ((rd_T52 x5_2 x9_3).f0) ((rd_T52 l0 x6_2).f0) true _ A14.out).mono ?_
               rintro e w18 ⟨rfl, hb⟩
               have HS0_ := (hb.cell (World.block_lt_of_cell? _ _ (hHeld.1))).trans (hHeld.1)
               have HS1_ := (hb.cell (World.block_lt_of_cell? _ _ (hHeld.2.1))).trans (hHeld.2.1)
               have HS2_ := (hb.cell (World.block_lt_of_cell? _ _ (hHeld.2.2.1))).trans (hHeld.2.2.1)
               refine ⟨_, rfl, ?_⟩
               have n0_ := Aside0.mk (Kd.R_below (by (with_reducible repeat (first | apply Kd.R_alloc | apply Kd.R_drewN | apply Kd.R_drew)); exact HO_5.out) hb)
               have n1_ := Aside0.mk (Kd.R_below (by (with_reducible repeat (first | apply Kd.R_alloc | apply Kd.R_drewN | apply Kd.R_drew)); exact HO_7.out) hb)
               have n2_ := Aside0.mk (below_step (bwA) hb)
               clear HO_5
               clear HO_7
               clear HB
               have HO_5 := n0_
               have HO_7 := n1_
               have HB := n2_
               clear n0_ n1_ n2_
               (try clear hb); (try clear hb2); (try clear hk); (try clear hi)
               refine hK.out _ _ ⟨HS0_, HS1_, HS2_, crA hw327_0, crA hw327_1, crA hw327_2⟩ (fun hHeld => ?_)
               clear hK K
               refine normA ?_
               refine done_ (done_of HT_.out (by kernel_rfl)) ?_
               try go_wp2
               go_ret2
               exact ⟨_, endA, by first | exact Kd.R_nil _ _ _ _ _ | exact Kd.N_nil _ _ _ _ _ | exact Kd.V_nil _ _ _ _ _ | exact Kd.Q_nil _ _ _ _ _ | exact Kd.S_nil _ _ _ _ _, bwA⟩
              ·replace c15 := Bool.eq_false_iff.mpr c15
               subst c15
               have H1 : (if x8_3 = true then (if x7_3.length < 4398046511104 then (caduceusref04_Sort.l2 k3 l0 x5_2 x6_2 (x7_3 ++ [(⟨(rd_T52 x5_2 x9_3).f0, (rd_T52 x5_2 x9_3).f1, (rd_T52 x5_2 x9_3).f2⟩ : S52)]) x8_3 (wrap64 (x9_3 + 1))) else (none)) else ((caduceusref02_Compare.f k3 ((rd_T52 l0 x6_2).f0) ((rd_T52 x5_2 x9_3).f0)).bind fun t335 => (if t335 < 0 then (if x7_3.length < 4398046511104 then ((some (x7_3 ++ [(⟨(rd_T52 l0 x6_2).f0, (rd_T52 l0 x6_2).f1, (rd_T52 l0 x6_2).f2⟩ : S52)] : List (S52))).bind fun y337 => (if y337.length < 4398046511104 then (caduceusref04_Sort.l2 k3 l0 x5_2 x6_2 (y337 ++ [(⟨(rd_T52 x5_2 x9_3).f0, (rd_T52 x5_2 x9_3).f1, (rd_T52 x5_2 x9_3).f2⟩ : S52)]) true (wrap64 (x9_3 + 1))) else (none))) else (none)) else (if x7_3.length < 4398046511104 then (caduceusref04_Sort.l2 k3 l0 x5_2 x6_2 (x7_3 ++ [(⟨(rd_T52 x5_2 x9_3).f0, (rd_T52 x5_2 x9_3).f1, (rd_T52 x5_2 x9_3).f2⟩ : S52)]) x8_3 (wrap64 (x9_3 + 1))) else (none))))) = some (r1, r2) := by rw [if_neg (show ¬ (false = true) by decide)] at H; exact H
               clear H
               have H := H1
               clear H1
               by_cases c19 : x8_3 = true
               ·subst c19
                have H1 : (if x7_3.length < 4398046511104 then (caduceusref04_Sort.l2 k3 l0 x5_2 x6_2 (x7_3 ++ [(⟨(rd_T52 x5_2 x9_3).f0, (rd_T52 x5_2 x9_3).f1, (rd_T52 x5_2 x9_3).f2⟩ : S52)]) true (wrap64 (x9_3 + 1))) else (none)) = some (r1, r2) := by rw [if_pos rfl] at H; exact H
                clear H
                have H := H1
                clear H1
                by_cases c20 : x7_3.length < 4398046511104
                ·rw [if_pos c20] at H
                 have LMc20 := Aside0.mk c20
                 clear c20
                 obtain ⟨y330, hy330⟩ : ∃ y_ : List (S52), y_ = (x7_3 ++ [(⟨(rd_T52 x5_2 x9_3).f0, (rd_T52 x5_2 x9_3).f1, (rd_T52 x5_2 x9_3).f2⟩ : S52)]) := ⟨_, rfl⟩
                 replace H : (caduceusref04_Sort.l2 k3 l0 x5_2 x6_2 y330 true (wrap64 (x9_3 + 1))) = some (r1, r2) := by first | (rw [hy330]; with_reducible exact H) | (have H2_ := (Option.bind_some _ _).symm.trans H; rw [hy330]; with_reducible exact H2_) | (have H2_ := (Option.bind_some _ _).symm.trans H; with_reducible exact H2_) | with_reducible exact H | (rw [hy330]; exact H) | exact H
                 have Ny330 := Aside0.mk hy330
                 clear hy330
                 have H' := Aside0.mk H
                 clear H
                 obtain ⟨Ao21, co21, eo21⟩ := Kd.R_slice HO_5.out
                 subst eo21
                 try go_wp2
                 have n0_ := Aside0.mk (Kd.R_drew HO_5.out)
                 have n1_ := Aside0.mk (Kd.R_drew HO_7.out)
                 have n2_ := Aside0.mk (below_drew1 HB.out)
                 clear HO_5
                 clear HO_7
                 clear HB
                 have HO_5 := n0_
                 have HO_7 := n1_
                 have HB := n2_
                 clear n0_ n1_ n2_
                 have p326 : 0 ≤ (x9_3 : Int) := odA
                 have q326 : x9_3 < (x5_2.length : Int) := odA
                 obtain ⟨ad326, e326, hx326_0, hx326_1, hx326_2⟩ := at_T52 (Kd.R_reads' HO_5.out).2.2 x9_3 p326 q326
                 cases e326
                 replace p326 := eq_true p326
                 replace q326 := eq_true q326
                 have p327 : 0 ≤ (x6_2 : Int) := odA
                 have q327 : x6_2 < (l0.length : Int) := odA
                 obtain ⟨ad327, e327, hx327_0, hx327_1, hx327_2⟩ := at_T52 HR0.out x6_2 p327 q327
                 have hw327_2 := hx327_2
                 have hw327_1 := hx327_1
                 have hw327_0 := hx327_0
                 cases e327
                 replace hx327_0 := crA hx327_0
                 replace hx327_1 := crA hx327_1
                 replace hx327_2 := crA hx327_2
                 replace p327 := eq_true p327
                 replace q327 := eq_true q327
                 refine start_ (n := 11) (S := fun w' => w'.cell? (ad326.add ((x9_3).toNat * 3)) = some (.string ((rd_T52 x5_2 x9_3).f0)) ∧ w'.cell? ⟨(ad326.add ((x9_3).toNat * 3)).block, (ad326.add ((x9_3).toNat * 3)).off + 1, none⟩ = some (.int .i64 ((rd_T52 x5_2 x9_3).f1)) ∧ w'.cell? ⟨(ad326.add ((x9_3).toNat * 3)).block, (ad326.add ((x9_3).toNat * 3)).off + 2, none⟩ = some (.bool ((rd_T52 x5_2 x9_3).f2)) ∧ w'.cell? (ad327.add ((x6_2).toNat * 3)) = some (.string ((rd_T52 l0 x6_2).f0)) ∧ w'.cell? ⟨(ad327.add ((x6_2).toNat * 3)).block, (ad327.add ((x6_2).toNat * 3)).off + 1, none⟩ = some (.int .i64 ((rd_T52 l0 x6_2).f1)) ∧ w'.cell? ⟨(ad327.add ((x6_2).toNat * 3)).block, (ad327.add ((x6_2).toNat * 3)).off + 2, none⟩ = some (.bool ((rd_T52 l0 x6_2).f2))) (ds := []) (mkB 11 0) (by kernel_rfl) rfl rfl ⟨hx326_0, hx326_1, hx326_2, crA hw327_0, crA hw327_1, crA hw327_2⟩ (fun hHeld => ?_); refine with_tabW caduceusref04_Sort.tab17 caduceusref04_Sort.bits17 (fun HT_ HW_ => ?_)
                 generalize wr.drew = w22 at HO_5 HO_7 HB hx326_0 hx326_1 hx326_2 hx327_0 hx327_1 hx327_2 hHeld ⊢
                 refine pureA 0 (some 37) (mkB 11 1) ?_
                 refine pureA 1 (some 38) (mkB 11 3) ?_
                 refine pureA 2 (some 39) (mkB 11 7) ?_
                 refine pureA 3 (some 40) (mkB 11 15) ?_
                 refine pureA 5 (some 42) (mkB 11 47) ?_
                 refine pureA 6 (some 43) (mkB 11 111) ?_
                 refine pureA 7 (some 44) (mkB 11 239) ?_
                 refine pureA 8 (some 45) (mkB 11 495) ?_
                 refine takeA 4 (some 41) (mkB 11 511) ?_ rfl (Or.inl ⟨by rfl, by rintro w' ⟨s0, s1, s2, s3, s4, s5⟩; go_simp; with_reducible rfl⟩)
                 refine takeA 9 (some 46) (mkB 11 1023) ?_ rfl (Or.inl ⟨by rfl, by rintro w' ⟨s0, s1, s2, s3, s4, s5⟩; go_simp; with_reducible rfl⟩)
                 refine oneA 10 (some 47) (mkB 11 2047) (fun K hK => ?_)
                 refine goes_ Tryz.func24 (by kernel_rfl) rfl #[.string ((rd_T52 x5_2 x9_3).f0), .string ((rd_T52 l0 x6_2).f0)] (by rfl) rfl rfl (by (try simp only [List.map_toArray, List.map_cons, List.map_nil]); first | done | rfl | (simp only [List.length_drop, List.length_take]; rfl)) ?_
                 with_reducible refine (caduceusref04_same.calls k3 ((rd_T52 x5_2 x9_3).f0) ((rd_T52 l0 x6_2).f0) false _ A14.out).mono ?_
                 rintro e w23 ⟨rfl, hb⟩
                 have HS0_ := (hb.cell (World.block_lt_of_cell? _ _ (hHeld.1))).trans (hHeld.1)
                 have HS1_ := (hb.cell (World.block_lt_of_cell? _ _ (hHeld.2.1))).trans (hHeld.2.1)
                 have HS2_ := (hb.cell (World.block_lt_of_cell? _ _ (hHeld.2.2.1))).trans (hHeld.2.2.1)
                 refine ⟨_, rfl, ?_⟩
                 have n0_ := Aside0.mk (Kd.R_below (by (with_reducible repeat (first | apply Kd.R_alloc | apply Kd.R_drewN | apply Kd.R_drew)); exact HO_5.out) hb)
                 have n1_ := Aside0.mk (Kd.R_below (by (with_reducible repeat (first | apply Kd.R_alloc | apply Kd.R_drewN | apply Kd.R_drew)); exact HO_7.out) hb)
                 have n2_ := Aside0.mk (below_step (bwA) hb)
                 clear HO_5
                 clear HO_7
                 clear HB
                 have HO_5 := n0_
                 have HO_7 := n1_
                 have HB := n2_
                 clear n0_ n1_ n2_
                 (try clear hb); (try clear hb2); (try clear hk); (try clear hi)
                 refine hK.out _ _ ⟨HS0_, HS1_, HS2_, crA hw327_0, crA hw327_1, crA hw327_2⟩ (fun hHeld => ?_)
                 clear hK K
                 refine normA ?_
                 refine done_ (done_of HT_.out (by kernel_rfl)) ?_
                 try go_wp2
                 have n0_ := Aside0.mk (Kd.R_drew HO_5.out)
                 have n1_ := Aside0.mk (Kd.R_drew HO_7.out)
                 have n2_ := Aside0.mk (below_drew1 HB.out)
                 clear HO_5
                 clear HO_7
                 clear HB
                 have HO_5 := n0_
                 have HO_7 := n1_
                 have HB := n2_
                 clear n0_ n1_ n2_
                 refine start_ (n := 16) (S := fun w' => True) (ds := []) (mkB 16 0) (by kernel_rfl) rfl rfl trivial (fun hHeld => ?_); refine with_tabW caduceusref04_Sort.tab19 caduceusref04_Sort.bits19 (fun HT_ HW_ => ?_)
                 generalize w23.drew = w24 at HO_5 HO_7 HB hHeld ⊢
                 refine pureA 0 (some 48) (mkB 16 1) ?_
                 refine pureA 1 (some 49) (mkB 16 3) ?_
                 refine pureA 2 (some 50) (mkB 16 7) ?_
                 refine pureU 3 (some 51) (mkB 16 15) ?_
                 refine pureU 4 (some 52) (mkB 16 31) ?_
                 refine pureU 5 (some 53) (mkB 16 63) ?_
                 refine pureU 6 (some 54) (mkB 16 127) ?_
                 refine pureU 7 (some 55) (mkB 16 255) ?_
                 refine pureU 8 (some 56) (mkB 16 511) ?_
                 refine pureU 9 (some 57) (mkB 16 1023) ?_
                 refine pureU 10 (some 58) (mkB 16 2047) ?_
                 refine pureU 11 (some 59) (mkB 16 4095) ?_
                 refine pureU 12 (some 60) (mkB 16 8191) ?_
                 refine pureU 13 (some 61) (mkB 16 16383) ?_
                 refine pureU 14 (some 62) (mkB 16 32767) ?_
                 refine pureA 15 (some 63) (mkB 16 65535) ?_
                 refine done_ (done_of HT_.out (by kernel_rfl)) ?_
                 have p329 : 0 ≤ (x9_3 : Int) := odA
                 have q329 : x9_3 < (x5_2.length : Int) := odA
                 obtain ⟨ad329, e329, hx329_0, hx329_1, hx329_2⟩ := at_T52 (Kd.R_reads' HO_5.out).2.2 x9_3 p329 q329
                 obtain rfl : ad326 = ad329 := (by injection e329)
                 replace p329 := eq_true p329
                 replace q329 := eq_true q329
                 try go_wp2_with (first | ((with_reducible refine gate_builtin (b := .append) (xs := #[.tmp 71, .tmp 76]) rfl ?_); at_builtin; refine Kd.R_append k52 (w0 := w) w.heap.size rfl (.tmp 71) (.tmp 76) 28 52 (.agg #[(.string ⟨#[]⟩), (.int .i64 0), (.bool false)]) 32 rfl Tryz.underlying28 info52 rfl (by decide) (by omega) u7 x7_3 (⟨(rd_T52 x5_2 x9_3).f0, (rd_T52 x5_2 x9_3).f1, (rd_T52 x5_2 x9_3).f2⟩ : S52) [.string ((rd_T52 x5_2 x9_3).f0), .int .i64 ((rd_T52 x5_2 x9_3).f1), .bool ((rd_T52 x5_2 x9_3).f2)] (fun k_ => some k_ ≠ (.slice (some ad326) x5_2.length co21 : Value).ownBlock) (fun _ => False) rfl rfl ?aP (fun _ hk => hk.elim) ?aF ?aO ?aB ?aS ?aL ?_; (case aP => exact k52_mkM _ _ _ (⟨(rd_T52 x5_2 x9_3).f0, (rd_T52 x5_2 x9_3).f1, (rd_T52 x5_2 x9_3).f2⟩ : S52)); (case aB => exact (bwA)); (case aF => exact (fun k_ hk => Kd.fresh' (Kd.R_lt (by (with_reducible repeat (first | apply Kd.R_alloc | apply Kd.R_drewN | apply Kd.R_drew)); exact HO_5.out)) k_ hk)); (case aO => exact (by (with_reducible repeat (first | apply Kd.R_alloc | apply Kd.R_drewN | apply Kd.R_drew)); exact HO_7.out)); (case aS => exact (below_size (bwA))); (case aL => have := LMc20.out; omega); intro v331 w25 ho hb hg hat; rw [← Ny330.out] at ho; have n0_ := Aside0.mk (Kd.R_after (ok := (fun _ => True)) (by (with_reducible repeat (first | apply Kd.R_alloc | apply Kd.R_drewN | apply Kd.R_drew)); exact Kd.R_mono HO_5.out (fun _ hk => ⟨trivial, hk⟩)) hg hat); have n1_ := Aside0.mk (hb); have n2_ := Aside0.mk (ho); clear HO_5; clear HB; clear HO_7; have HO_5 := n0_; have HB := n1_; have HO332 := n2_; clear n0_ n1_ n2_; clear ho hb hg hat))
                 go_roundg k3
                 case measure => have := HK1.out; have := HK2.out; have := HK3.out; omega
                 case rel => exact ⟨(y330), (true), (wrap64 (x9_3 + 1)), (endS), (endS), H', ⟨by have := HK1.out; have := HK2.out; have := HK3.out; omega⟩, ⟨by (with_reducible repeat (first | apply Kd.R_alloc | apply Kd.R_drewN | apply Kd.R_drew)); exact Kd.R_mono HO_5.out (fun _ hk => hk.2)⟩, ⟨by (with_reducible repeat (first | apply Kd.R_alloc | apply Kd.R_drewN | apply Kd.R_drew)); exact HO332.out⟩, ⟨bwA⟩⟩
                ·rw [if_neg c20] at H
                 exact absurd H (by simp)
               ·replace c19 := Bool.eq_false_iff.mpr c19
                subst c19
                have H1 : ((caduceusref02_Compare.f k3 ((rd_T52 l0 x6_2).f0) ((rd_T52 x5_2 x9_3).f0)).bind fun t335 => (if t335 < 0 then (if x7_3.length < 4398046511104 then ((some (x7_3 ++ [(⟨(rd_T52 l0 x6_2).f0, (rd_T52 l0 x6_2).f1, (rd_T52 l0 x6_2).f2⟩ : S52)] : List (S52))).bind fun y337 => (if y337.length < 4398046511104 then (caduceusref04_Sort.l2 k3 l0 x5_2 x6_2 (y337 ++ [(⟨(rd_T52 x5_2 x9_3).f0, (rd_T52 x5_2 x9_3).f1, (rd_T52 x5_2 x9_3).f2⟩ : S52)]) true (wrap64 (x9_3 + 1))) else (none))) else (none)) else (if x7_3.length < 4398046511104 then (caduceusref04_Sort.l2 k3 l0 x5_2 x6_2 (x7_3 ++ [(⟨(rd_T52 x5_2 x9_3).f0, (rd_T52 x5_2 x9_3).f1, (rd_T52 x5_2 x9_3).f2⟩ : S52)]) false (wrap64 (x9_3 + 1))) else (none)))) = some (r1, r2) := by rw [if_neg (show ¬ (false = true) by decide)] at H; exact H
                clear H
                have H := H1
                clear H1
                replace H := Option.bind_eq_some_iff.mp H
                obtain ⟨t335, A260, H⟩ := H
                replace H : (if t335 < 0 then (if x7_3.length < 4398046511104 then ((some (x7_3 ++ [(⟨(rd_T52 l0 x6_2).f0, (rd_T52 l0 x6_2).f1, (rd_T52 l0 x6_2).f2⟩ : S52)] : List (S52))).bind fun y337 => (if y337.length < 4398046511104 then (caduceusref04_Sort.l2 k3 l0 x5_2 x6_2 (y337 ++ [(⟨(rd_T52 x5_2 x9_3).f0, (rd_T52 x5_2 x9_3).f1, (rd_T52 x5_2 x9_3).f2⟩ : S52)]) true (wrap64 (x9_3 + 1))) else (none))) else (none)) else (if x7_3.length < 4398046511104 then (caduceusref04_Sort.l2 k3 l0 x5_2 x6_2 (x7_3 ++ [(⟨(rd_T52 x5_2 x9_3).f0, (rd_T52 x5_2 x9_3).f1, (rd_T52 x5_2 x9_3).f2⟩ : S52)]) false (wrap64 (x9_3 + 1))) else (none))) = some (r1, r2) := H
                have A26 := Aside0.mk A260
                clear A260
                by_cases c27 : t335 < 0
                ·rw [if_pos c27] at H
                 have c27b0 : decide (t335 < 0) = true := decide_eq_true c27
                 clear c27
                 by_cases c28 : x7_3.length < 4398046511104
                 ·rw [if_pos c28] at H
                  have LMc28 := Aside0.mk c28
                  clear c28
                  obtain ⟨y337, hy337⟩ : ∃ y_ : List (S52), y_ = (x7_3 ++ [(⟨(rd_T52 l0 x6_2).f0, (rd_T52 l0 x6_2).f1, (rd_T52 l0 x6_2).f2⟩ : S52)]) := ⟨_, rfl⟩
                  replace H : (if y337.length < 4398046511104 then (caduceusref04_Sort.l2 k3 l0 x5_2 x6_2 (y337 ++ [(⟨(rd_T52 x5_2 x9_3).f0, (rd_T52 x5_2 x9_3).f1, (rd_T52 x5_2 x9_3).f2⟩ : S52)]) true (wrap64 (x9_3 + 1))) else (none)) = some (r1, r2) := by first | (rw [hy337]; with_reducible exact H) | (have H2_ := (Option.bind_some _ _).symm.trans H; rw [hy337]; with_reducible exact H2_) | (have H2_ := (Option.bind_some _ _).symm.trans H; with_reducible exact H2_) | with_reducible exact H | (rw [hy337]; exact H) | exact H
                  have Ny337 := Aside0.mk hy337
                  clear hy337
                  by_cases c29 : y337.length < 4398046511104
                  ·rw [if_pos c29] at H
                   have LMc29 := Aside0.mk c29
                   clear c29
                   obtain ⟨y341, hy341⟩ : ∃ y_ : List (S52), y_ = (y337 ++ [(⟨(rd_T52 x5_2 x9_3).f0, (rd_T52 x5_2 x9_3).f1, (rd_T52 x5_2 x9_3).f2⟩ : S52)]) := ⟨_, rfl⟩
                   replace H : (caduceusref04_Sort.l2 k3 l0 x5_2 x6_2 y341 true (wrap64 (x9_3 + 1))) = some (r1, r2) := by first | (rw [hy341]; with_reducible exact H) | (have H2_ := (Option.bind_some _ _).symm.trans H; rw [hy341]; with_reducible exact H2_) | (have H2_ := (Option.bind_some _ _).symm.trans H; with_reducible exact H2_) | with_reducible exact H | (rw [hy341]; exact H) | exact H
                   have Ny341 := Aside0.mk hy341
                   clear hy341
                   have H' := Aside0.mk H
                   clear H
                   obtain ⟨Ao30, co30, eo30⟩ := Kd.R_slice HO_5.out
                   subst eo30
                   try go_wp2
                   have n0_ := Aside0.mk (Kd.R_drew HO_5.out)
                   have n1_ := Aside0.mk (Kd.R_drew HO_7.out)
                   have n2_ := Aside0.mk (below_drew1 HB.out)
                   clear HO_5
                   clear HO_7
                   clear HB
                   have HO_5 := n0_
                   have HO_7 := n1_
                   have HB := n2_
                   clear n0_ n1_ n2_
                   have p326 : 0 ≤ (x9_3 : Int) := odA
                   have q326 : x9_3 < (x5_2.length : Int) := odA
                   obtain ⟨ad326, e326, hx326_0, hx326_1, hx326_2⟩ := at_T52 (Kd.R_reads' HO_5.out).2.2 x9_3 p326 q326
                   cases e326
                   replace p326 := eq_true p326
                   replace q326 := eq_true q326
                   have p327 : 0 ≤ (x6_2 : Int) := odA
                   have q327 : x6_2 < (l0.length : Int) := odA
                   obtain ⟨ad327, e327, hx327_0, hx327_1, hx327_2⟩ := at_T52 HR0.out x6_2 p327 q327
                   have hw327_2 := hx327_2
                   have hw327_1 := hx327_1
                   have hw327_0 := hx327_0
                   cases e327
                   replace hx327_0 := crA hx327_0
                   replace hx327_1 := crA hx327_1
                   replace hx327_2 := crA hx327_2
                   replace p327 := eq_true p327
                   replace q327 := eq_true q327
                   refine start_ (n := 11) (S := fun w' => w'.cell? (ad326.add ((x9_3).toNat * 3)) = some (.string ((rd_T52 x5_2 x9_3).f0)) ∧ w'.cell? ⟨(ad326.add ((x9_3).toNat * 3)).block, (ad326.add ((x9_3).toNat * 3)).off + 1, none⟩ = some (.int .i64 ((rd_T52 x5_2 x9_3).f1)) ∧ w'.cell? ⟨(ad326.add ((x9_3).toNat * 3)).block, (ad326.add ((x9_3).toNat * 3)).off + 2, none⟩ = some (.bool ((rd_T52 x5_2 x9_3).f2)) ∧ w'.cell? (ad327.add ((x6_2).toNat * 3)) = some (.string ((rd_T52 l0 x6_2).f0)) ∧ w'.cell? ⟨(ad327.add ((x6_2).toNat * 3)).block, (ad327.add ((x6_2).toNat * 3)).off + 1, none⟩ = some (.int .i64 ((rd_T52 l0 x6_2).f1)) ∧ w'.cell? ⟨(ad327.add ((x6_2).toNat * 3)).block, (ad327.add ((x6_2).toNat * 3)).off + 2, none⟩ = some (.bool ((rd_T52 l0 x6_2).f2))) (ds := []) (mkB 11 0) (by kernel_rfl) rfl rfl ⟨hx326_0, hx326_1, hx326_2, crA hw327_0, crA hw327_1, crA hw327_2⟩ (fun hHeld => ?_); refine with_tabW caduceusref04_Sort.tab17 caduceusref04_Sort.bits17 (fun HT_ HW_ => ?_)
                   generalize wr.drew = w31 at HO_5 HO_7 HB hx326_0 hx326_1 hx326_2 hx327_0 hx327_1 hx327_2 hHeld ⊢
                   refine pureA 0 (some 37) (mkB 11 1) ?_
                   refine pureA 1 (some 38) (mkB 11 3) ?_
                   refine pureA 2 (some 39) (mkB 11 7) ?_
                   refine pureA 3 (some 40) (mkB 11 15) ?_
                   refine pureA 5 (some 42) (mkB 11 47) ?_
                   refine pureA 6 (some 43) (mkB 11 111) ?_
                   refine pureA 7 (some 44) (mkB 11 239) ?_
                   refine pureA 8 (some 45) (mkB 11 495) ?_
                   refine takeA 4 (some 41) (mkB 11 511) ?_ rfl (Or.inl ⟨by rfl, by rintro w' ⟨s0, s1, s2, s3, s4, s5⟩; go_simp; with_reducible rfl⟩)
                   refine takeA 9 (some 46) (mkB 11 1023) ?_ rfl (Or.inl ⟨by rfl, by rintro w' ⟨s0, s1, s2, s3, s4, s5⟩; go_simp; with_reducible rfl⟩)
                   refine oneA 10 (some 47) (mkB 11 2047) (fun K hK => ?_)
                   refine goes_ Tryz.func24 (by kernel_rfl) rfl #[.string ((rd_T52 x5_2 x9_3).f0), .string ((rd_T52 l0 x6_2).f0)] (by rfl) rfl rfl (by (try simp only [List.map_toArray, List.map_cons, List.map_nil]); first | done | rfl | (simp only [List.length_drop, List.length_take]; rfl)) ?_
                   with_reducible refine (caduceusref04_same.calls k3 ((rd_T52 x5_2 x9_3).f0) ((rd_T52 l0 x6_2).f0) false _ A14.out).mono ?_
                   rintro e w32 ⟨rfl, hb⟩
                   have HS0_ := (hb.cell (World.block_lt_of_cell? _ _ (hHeld.1))).trans (hHeld.1)
                   have HS1_ := (hb.cell (World.block_lt_of_cell? _ _ (hHeld.2.1))).trans (hHeld.2.1)
                   have HS2_ := (hb.cell (World.block_lt_of_cell? _ _ (hHeld.2.2.1))).trans (hHeld.2.2.1)
                   refine ⟨_, rfl, ?_⟩
                   have n0_ := Aside0.mk (Kd.R_below (by (with_reducible repeat (first | apply Kd.R_alloc | apply Kd.R_drewN | apply Kd.R_drew)); exact HO_5.out) hb)
                   have n1_ := Aside0.mk (Kd.R_below (by (with_reducible repeat (first | apply Kd.R_alloc | apply Kd.R_drewN | apply Kd.R_drew)); exact HO_7.out) hb)
                   have n2_ := Aside0.mk (below_step (bwA) hb)
                   clear HO_5
                   clear HO_7
                   clear HB
                   have HO_5 := n0_
                   have HO_7 := n1_
                   have HB := n2_
                   clear n0_ n1_ n2_
                   (try clear hb); (try clear hb2); (try clear hk); (try clear hi)
                   refine hK.out _ _ ⟨HS0_, HS1_, HS2_, crA hw327_0, crA hw327_1, crA hw327_2⟩ (fun hHeld => ?_)
                   clear hK K
                   refine normA ?_
                   refine done_ (done_of HT_.out (by kernel_rfl)) ?_
                   try go_wp2
                   have n0_ := Aside0.mk (Kd.R_drew HO_5.out)
                   have n1_ := Aside0.mk (Kd.R_drew HO_7.out)
                   have n2_ := Aside0.mk (below_drew1 HB.out)
                   clear HO_5
                   clear HO_7
                   clear HB
                   have HO_5 := n0_
                   have HO_7 := n1_
                   have HB := n2_
                   clear n0_ n1_ n2_
                   have p333 : 0 ≤ (x6_2 : Int) := odA
                   have q333 : x6_2 < (l0.length : Int) := odA
                   obtain ⟨ad333, e333, hx333_0, hx333_1, hx333_2⟩ := at_T52 HR0.out x6_2 p333 q333
                   have hw333_2 := hx333_2
                   have hw333_1 := hx333_1
                   have hw333_0 := hx333_0
                   obtain rfl : ad327 = ad333 := (by injection e333)
                   replace hx333_0 := crA hx333_0
                   replace hx333_1 := crA hx333_1
                   replace hx333_2 := crA hx333_2
                   replace p333 := eq_true p333
                   replace q333 := eq_true q333
                   have p334 : 0 ≤ (x9_3 : Int) := odA
                   have q334 : x9_3 < (x5_2.length : Int) := odA
                   obtain ⟨ad334, e334, hx334_0, hx334_1, hx334_2⟩ := at_T52 (Kd.R_reads' HO_5.out).2.2 x9_3 p334 q334
                   obtain rfl : ad326 = ad334 := (by injection e334)
                   replace p334 := eq_true p334
                   replace q334 := eq_true q334
                   refine start_ (n := 16) (S := fun w' => w'.cell? (ad327.add ((x6_2).toNat * 3)) = some (.string ((rd_T52 l0 x6_2).f0)) ∧ w'.cell? ⟨(ad327.add ((x6_2).toNat * 3)).block, (ad327.add ((x6_2).toNat * 3)).off + 1, none⟩ = some (.int .i64 ((rd_T52 l0 x6_2).f1)) ∧ w'.cell? ⟨(ad327.add ((x6_2).toNat * 3)).block, (ad327.add ((x6_2).toNat * 3)).off + 2, none⟩ = some (.bool ((rd_T52 l0 x6_2).f2)) ∧ w'.cell? (ad326.add ((x9_3).toNat * 3)) = some (.string ((rd_T52 x5_2 x9_3).f0)) ∧ w'.cell? ⟨(ad326.add ((x9_3).toNat * 3)).block, (ad326.add ((x9_3).toNat * 3)).off + 1, none⟩ = some (.int .i64 ((rd_T52 x5_2 x9_3).f1)) ∧ w'.cell? ⟨(ad326.add ((x9_3).toNat * 3)).block, (ad326.add ((x9_3).toNat * 3)).off + 2, none⟩ = some (.bool ((rd_T52 x5_2 x9_3).f2))) (ds := []) (mkB 16 0) (by kernel_rfl) rfl rfl ⟨crA hw333_0, crA hw333_1, crA hw333_2, hx334_0, hx334_1, hx334_2⟩ (fun hHeld => ?_); refine with_tabW caduceusref04_Sort.tab19 caduceusref04_Sort.bits19 (fun HT_ HW_ => ?_)
                   generalize w32.drew = w33 at HO_5 HO_7 HB hx333_0 hx333_1 hx333_2 hx334_0 hx334_1 hx334_2 hHeld ⊢
                   refine pureA 0 (some 48) (mkB 16 1) ?_
                   refine pureA 1 (some 49) (mkB 16 3) ?_
                   refine pureA 2 (some 50) (mkB 16 7) ?_
                   refine pureA 3 (some 51) (mkB 16 15) ?_
                   refine pureA 4 (some 52) (mkB 16 31) ?_
                   refine pureA 5 (some 53) (mkB 16 63) ?_
                   refine pureA 6 (some 54) (mkB 16 127) ?_
                   refine pureA 8 (some 56) (mkB 16 383) ?_
                   refine pureA 9 (some 57) (mkB 16 895) ?_
                   refine pureA 10 (some 58) (mkB 16 1919) ?_
                   refine pureA 11 (some 59) (mkB 16 3967) ?_
                   refine takeA 7 (some 55) (mkB 16 4095) ?_ rfl (Or.inl ⟨by rfl, by rintro w' ⟨s0, s1, s2, s3, s4, s5⟩; go_simp; with_reducible rfl⟩)
                   refine takeA 12 (some 60) (mkB 16 8191) ?_ rfl (Or.inl ⟨by rfl, by rintro w' ⟨s0, s1, s2, s3, s4, s5⟩; go_simp; with_reducible rfl⟩)
                   refine oneA 13 (some 61) (mkB 16 16383) (fun K hK => ?_)
                   refine goes_ Tryz.func25 (by kernel_rfl) rfl #[.string ((rd_T52 l0 x6_2).f0), .string ((rd_T52 x5_2 x9_3).f0)] (by rfl) rfl rfl (by (try simp only [List.map_toArray, List.map_cons, List.map_nil]); first | done | rfl | (simp only [List.length_drop, List.length_take]; rfl)) ?_
                   with_reducible refine (caduceusref02_Compare.calls k3 ((rd_T52 l0 x6_2).f0) ((rd_T52 x5_2 x9_3).f0) t335 _ A26.out).mono ?_
                   rintro e w34 ⟨rfl, hb⟩
                   have HS3_ := (hb.cell (World.block_lt_of_cell? _ _ (hHeld.2.2.2.1))).trans (hHeld.2.2.2.1)
                   have HS4_ := (hb.cell (World.block_lt_of_cell? _ _ (hHeld.2.2.2.2.1))).trans (hHeld.2.2.2.2.1)
                   have HS5_ := (hb.cell (World.block_lt_of_cell? _ _ (hHeld.2.2.2.2.2))).trans (hHeld.2.2.2.2.2)
                   refine ⟨_, rfl, ?_⟩
                   have n0_ := Aside0.mk (Kd.R_below (by (with_reducible repeat (first | apply Kd.R_alloc | apply Kd.R_drewN | apply Kd.R_drew)); exact HO_5.out) hb)
                   have n1_ := Aside0.mk (Kd.R_below (by (with_reducible repeat (first | apply Kd.R_alloc | apply Kd.R_drewN | apply Kd.R_drew)); exact HO_7.out) hb)
                   have n2_ := Aside0.mk (below_step (bwA) hb)
                   clear HO_5
                   clear HO_7
                   clear HB
                   have HO_5 := n0_
                   have HO_7 := n1_
                   have HB := n2_
                   clear n0_ n1_ n2_
                   (try clear hb); (try clear hb2); (try clear hk); (try clear hi)
                   refine hK.out _ _ ⟨crA hw333_0, crA hw333_1, crA hw333_2, HS3_, HS4_, HS5_⟩ (fun hHeld => ?_)
                   clear hK K
                   refine normA ?_
                   refine pureA 14 (some 62) (mkB 16 32767) ?_
                   refine pureA 15 (some 63) (mkB 16 65535) ?_
                   refine done_ (done_of HT_.out (by kernel_rfl)) ?_
                   have p336 : 0 ≤ (x6_2 : Int) := odA
                   have q336 : x6_2 < (l0.length : Int) := odA
                   obtain ⟨ad336, e336, hx336_0, hx336_1, hx336_2⟩ := at_T52 HR0.out x6_2 p336 q336
                   obtain rfl : ad327 = ad336 := (by injection e336)
                   replace hx336_0 := crA hx336_0
                   replace hx336_1 := crA hx336_1
                   replace hx336_2 := crA hx336_2
                   replace p336 := eq_true p336
                   replace q336 := eq_true q336
                   try go_wp2_with (first | ((with_reducible refine gate_builtin (b := .append) (xs := #[.tmp 64, .tmp 69]) rfl ?_); at_builtin; refine Kd.R_append k52 (w0 := w) w.heap.size rfl (.tmp 64) (.tmp 69) 28 52 (.agg #[(.string ⟨#[]⟩), (.int .i64 0), (.bool false)]) 32 rfl Tryz.underlying28 info52 rfl (by decide) (by omega) u7 x7_3 (⟨(rd_T52 l0 x6_2).f0, (rd_T52 l0 x6_2).f1, (rd_T52 l0 x6_2).f2⟩ : S52) [.string ((rd_T52 l0 x6_2).f0), .int .i64 ((rd_T52 l0 x6_2).f1), .bool ((rd_T52 l0 x6_2).f2)] (fun k_ => some k_ ≠ (.slice (some ad326) x5_2.length co30 : Value).ownBlock) (fun _ => False) rfl rfl ?aP (fun _ hk => hk.elim) ?aF ?aO ?aB ?aS ?aL ?_; (case aP => exact k52_mkM _ _ _ (⟨(rd_T52 l0 x6_2).f0, (rd_T52 l0 x6_2).f1, (rd_T52 l0 x6_2).f2⟩ : S52)); (case aB => exact (bwA)); (case aF => exact (fun k_ hk => Kd.fresh' (Kd.R_lt (by (with_reducible repeat (first | apply Kd.R_alloc | apply Kd.R_drewN | apply Kd.R_drew)); exact HO_5.out)) k_ hk)); (case aO => exact (by (with_reducible repeat (first | apply Kd.R_alloc | apply Kd.R_drewN | apply Kd.R_drew)); exact HO_7.out)); (case aS => exact (below_size (bwA))); (case aL => have := LMc28.out; omega); intro v338 w35 ho hb hg hat; rw [← Ny337.out] at ho; have n0_ := Aside0.mk (Kd.R_after (ok := (fun _ => True)) (by (with_reducible repeat (first | apply Kd.R_alloc | apply Kd.R_drewN | apply Kd.R_drew)); exact Kd.R_mono HO_5.out (fun _ hk => ⟨trivial, hk⟩)) hg hat); have n1_ := Aside0.mk (hb); have n2_ := Aside0.mk (ho); clear HO_5; clear HB; clear HO_7; have HO_5 := n0_; have HB := n1_; have HO339 := n2_; clear n0_ n1_ n2_; clear ho hb hg hat; have p340 : 0 ≤ (x9_3 : Int) := odA; have q340 : x9_3 < (x5_2.length : Int) := odA; obtain ⟨ad340, e340, hx340_0, hx340_1, hx340_2⟩ := at_T52 (Kd.R_reads' HO_5.out).2.2 x9_3 p340 q340; obtain rfl : ad326 = ad340 := (by injection e340); replace p340 := eq_true p340; replace q340 := eq_true q340) | ((with_reducible refine gate_builtin (b := .append) (xs := #[.tmp 71, .tmp 76]) rfl ?_); at_builtin; refine Kd.R_append k52 (w0 := w) w.heap.size rfl (.tmp 71) (.tmp 76) 28 52 (.agg #[(.string ⟨#[]⟩), (.int .i64 0), (.bool false)]) 32 rfl Tryz.underlying28 info52 rfl (by decide) (by omega) v338 y337 (⟨(rd_T52 x5_2 x9_3).f0, (rd_T52 x5_2 x9_3).f1, (rd_T52 x5_2 x9_3).f2⟩ : S52) [.string ((rd_T52 x5_2 x9_3).f0), .int .i64 ((rd_T52 x5_2 x9_3).f1), .bool ((rd_T52 x5_2 x9_3).f2)] (fun k_ => some k_ ≠ (.slice (some ad326) x5_2.length co30 : Value).ownBlock) (fun _ => False) rfl rfl ?aP (fun _ hk => hk.elim) ?aF ?aO ?aB ?aS ?aL ?_; (case aP => exact k52_mkM _ _ _ (⟨(rd_T52 x5_2 x9_3).f0, (rd_T52 x5_2 x9_3).f1, (rd_T52 x5_2 x9_3).f2⟩ : S52)); (case aB => exact (bwA)); (case aF => exact (fun k_ hk => Kd.fresh' (Kd.R_lt (by (with_reducible repeat (first | apply Kd.R_alloc | apply Kd.R_drewN | apply Kd.R_drew)); exact HO_5.out)) k_ hk)); (case aO => exact (by (with_reducible repeat (first | apply Kd.R_alloc | apply Kd.R_drewN | apply Kd.R_drew)); exact HO339.out)); (case aS => exact (below_size (bwA))); (case aL => have := LMc29.out; omega); intro v342 w36 ho hb hg hat; rw [← Ny341.out] at ho; have n0_ := Aside0.mk (Kd.R_after (ok := (fun _ => True)) (by (with_reducible repeat (first | apply Kd.R_alloc | apply Kd.R_drewN | apply Kd.R_drew)); exact HO_5.out) hg hat); have n1_ := Aside0.mk (hb); have n2_ := Aside0.mk (ho); clear HO_5; clear HB; clear HO339; have HO_5 := n0_; have HB := n1_; have HO343 := n2_; clear n0_ n1_ n2_; clear ho hb hg hat))
                   go_roundg k3
                   case measure => have := HK1.out; have := HK2.out; have := HK3.out; omega
                   case rel => exact ⟨(y341), (true), (wrap64 (x9_3 + 1)), (endS), (endS), H', ⟨by have := HK1.out; have := HK2.out; have := HK3.out; omega⟩, ⟨by (with_reducible repeat (first | apply Kd.R_alloc | apply Kd.R_drewN | apply Kd.R_drew)); exact Kd.R_mono HO_5.out (fun _ hk => hk.2)⟩, ⟨by (with_reducible repeat (first | apply Kd.R_alloc | apply Kd.R_drewN | apply Kd.R_drew)); exact HO343.out⟩, ⟨bwA⟩⟩
                  ·rw [if_neg c29] at H
                   exact absurd H (by simp)
                 ·rw [if_neg c28] at H
                  exact absurd H (by simp)
                ·rw [if_neg c27] at H
                 have c27b0 : decide (t335 < 0) = false := decide_eq_false c27
                 clear c27
                 by_cases c37 : x7_3.length < 4398046511104
                 ·rw [if_pos c37] at H
                  have LMc37 := Aside0.mk c37
                  clear c37
                  obtain ⟨y345, hy345⟩ : ∃ y_ : List (S52), y_ = (x7_3 ++ [(⟨(rd_T52 x5_2 x9_3).f0, (rd_T52 x5_2 x9_3).f1, (rd_T52 x5_2 x9_3).f2⟩ : S52)]) := ⟨_, rfl⟩
                  replace H : (caduceusref04_Sort.l2 k3 l0 x5_2 x6_2 y345 false (wrap64 (x9_3 + 1))) = some (r1, r2) := by first | (rw [hy345]; with_reducible exact H) | (have H2_ := (Option.bind_some _ _).symm.trans H; rw [hy345]; with_reducible exact H2_) | (have H2_ := (Option.bind_some _ _).symm.trans H; with_reducible exact H2_) | with_reducible exact H | (rw [hy345]; exact H) | exact H
                  have Ny345 := Aside0.mk hy345
                  clear hy345
                  have H' := Aside0.mk H
                  clear H
                  obtain ⟨Ao38, co38, eo38⟩ := Kd.R_slice HO_5.out
                  subst eo38
                  try go_wp2
                  have n0_ := Aside0.mk (Kd.R_drew HO_5.out)
                  have n1_ := Aside0.mk (Kd.R_drew HO_7.out)
                  have n2_ := Aside0.mk (below_drew1 HB.out)
                  clear HO_5
                  clear HO_7
                  clear HB
                  have HO_5 := n0_
                  have HO_7 := n1_
                  have HB := n2_
                  clear n0_ n1_ n2_
                  have p326 : 0 ≤ (x9_3 : Int) := odA
                  have q326 : x9_3 < (x5_2.length : Int) := odA
                  obtain ⟨ad326, e326, hx326_0, hx326_1, hx326_2⟩ := at_T52 (Kd.R_reads' HO_5.out).2.2 x9_3 p326 q326
                  cases e326
                  replace p326 := eq_true p326
                  replace q326 := eq_true q326
                  have p327 : 0 ≤ (x6_2 : Int) := odA
                  have q327 : x6_2 < (l0.length : Int) := odA
                  obtain ⟨ad327, e327, hx327_0, hx327_1, hx327_2⟩ := at_T52 HR0.out x6_2 p327 q327
                  have hw327_2 := hx327_2
                  have hw327_1 := hx327_1
                  have hw327_0 := hx327_0
                  cases e327
                  replace hx327_0 := crA hx327_0
                  replace hx327_1 := crA hx327_1
                  replace hx327_2 := crA hx327_2
                  replace p327 := eq_true p327
                  replace q327 := eq_true q327
                  refine start_ (n := 11) (S := fun w' => w'.cell? (ad326.add ((x9_3).toNat * 3)) = some (.string ((rd_T52 x5_2 x9_3).f0)) ∧ w'.cell? ⟨(ad326.add ((x9_3).toNat * 3)).block, (ad326.add ((x9_3).toNat * 3)).off + 1, none⟩ = some (.int .i64 ((rd_T52 x5_2 x9_3).f1)) ∧ w'.cell? ⟨(ad326.add ((x9_3).toNat * 3)).block, (ad326.add ((x9_3).toNat * 3)).off + 2, none⟩ = some (.bool ((rd_T52 x5_2 x9_3).f2)) ∧ w'.cell? (ad327.add ((x6_2).toNat * 3)) = some (.string ((rd_T52 l0 x6_2).f0)) ∧ w'.cell? ⟨(ad327.add ((x6_2).toNat * 3)).block, (ad327.add ((x6_2).toNat * 3)).off + 1, none⟩ = some (.int .i64 ((rd_T52 l0 x6_2).f1)) ∧ w'.cell? ⟨(ad327.add ((x6_2).toNat * 3)).block, (ad327.add ((x6_2).toNat * 3)).off + 2, none⟩ = some (.bool ((rd_T52 l0 x6_2).f2))) (ds := []) (mkB 11 0) (by kernel_rfl) rfl rfl ⟨hx326_0, hx326_1, hx326_2, crA hw327_0, crA hw327_1, crA hw327_2⟩ (fun hHeld => ?_); refine with_tabW caduceusref04_Sort.tab17 caduceusref04_Sort.bits17 (fun HT_ HW_ => ?_)
                  generalize wr.drew = w39 at HO_5 HO_7 HB hx326_0 hx326_1 hx326_2 hx327_0 hx327_1 hx327_2 hHeld ⊢
                  refine pureA 0 (some 37) (mkB 11 1) ?_
                  refine pureA 1 (some 38) (mkB 11 3) ?_
                  refine pureA 2 (some 39) (mkB 11 7) ?_
                  refine pureA 3 (some 40) (mkB 11 15) ?_
                  refine pureA 5 (some 42) (mkB 11 47) ?_
                  refine pureA 6 (some 43) (mkB 11 111) ?_
                  refine pureA 7 (some 44) (mkB 11 239) ?_
                  refine pureA 8 (some 45) (mkB 11 495) ?_
                  refine takeA 4 (some 41) (mkB 11 511) ?_ rfl (Or.inl ⟨by rfl, by rintro w' ⟨s0, s1, s2, s3, s4, s5⟩; go_simp; with_reducible rfl⟩)
                  refine takeA 9 (some 46) (mkB 11 1023) ?_ rfl (Or.inl ⟨by rfl, by rintro w' ⟨s0, s1, s2, s3, s4, s5⟩; go_simp; with_reducible rfl⟩)
                  refine oneA 10 (some 47) (mkB 11 2047) (fun K hK => ?_)
                  refine goes_ Tryz.func24 (by kernel_rfl) rfl #[.string ((rd_T52 x5_2 x9_3).f0), .string ((rd_T52 l0 x6_2).f0)] (by rfl) rfl rfl (by (try simp only [List.map_toArray, List.map_cons, List.map_nil]); first | done | rfl | (simp only [List.length_drop, List.length_take]; rfl)) ?_
                  with_reducible refine (caduceusref04_same.calls k3 ((rd_T52 x5_2 x9_3).f0) ((rd_T52 l0 x6_2).f0) false _ A14.out).mono ?_
                  rintro e w40 ⟨rfl, hb⟩
                  have HS0_ := (hb.cell (World.block_lt_of_cell? _ _ (hHeld.1))).trans (hHeld.1)
                  have HS1_ := (hb.cell (World.block_lt_of_cell? _ _ (hHeld.2.1))).trans (hHeld.2.1)
                  have HS2_ := (hb.cell (World.block_lt_of_cell? _ _ (hHeld.2.2.1))).trans (hHeld.2.2.1)
                  refine ⟨_, rfl, ?_⟩
                  have n0_ := Aside0.mk (Kd.R_below (by (with_reducible repeat (first | apply Kd.R_alloc | apply Kd.R_drewN | apply Kd.R_drew)); exact HO_5.out) hb)
                  have n1_ := Aside0.mk (Kd.R_below (by (with_reducible repeat (first | apply Kd.R_alloc | apply Kd.R_drewN | apply Kd.R_drew)); exact HO_7.out) hb)
                  have n2_ := Aside0.mk (below_step (bwA) hb)
                  clear HO_5
                  clear HO_7
                  clear HB
                  have HO_5 := n0_
                  have HO_7 := n1_
                  have HB := n2_
                  clear n0_ n1_ n2_
                  (try clear hb); (try clear hb2); (try clear hk); (try clear hi)
                  refine hK.out _ _ ⟨HS0_, HS1_, HS2_, crA hw327_0, crA hw327_1, crA hw327_2⟩ (fun hHeld => ?_)
                  clear hK K
                  refine normA ?_
                  refine done_ (done_of HT_.out (by kernel_rfl)) ?_
                  try go_wp2
                  have n0_ := Aside0.mk (Kd.R_drew HO_5.out)
                  have n1_ := Aside0.mk (Kd.R_drew HO_7.out)
                  have n2_ := Aside0.mk (below_drew1 HB.out)
                  clear HO_5
                  clear HO_7
                  clear HB
                  have HO_5 := n0_
                  have HO_7 := n1_
                  have HB := n2_
                  clear n0_ n1_ n2_
                  have p333 : 0 ≤ (x6_2 : Int) := odA
                  have q333 : x6_2 < (l0.length : Int) := odA
                  obtain ⟨ad333, e333, hx333_0, hx333_1, hx333_2⟩ := at_T52 HR0.out x6_2 p333 q333
                  have hw333_2 := hx333_2
                  have hw333_1 := hx333_1
                  have hw333_0 := hx333_0
                  obtain rfl : ad327 = ad333 := (by injection e333)
                  replace hx333_0 := crA hx333_0
                  replace hx333_1 := crA hx333_1
                  replace hx333_2 := crA hx333_2
                  replace p333 := eq_true p333
                  replace q333 := eq_true q333
                  have p334 : 0 ≤ (x9_3 : Int) := odA
                  have q334 : x9_3 < (x5_2.length : Int) := odA
                  obtain ⟨ad334, e334, hx334_0, hx334_1, hx334_2⟩ := at_T52 (Kd.R_reads' HO_5.out).2.2 x9_3 p334 q334
                  obtain rfl : ad326 = ad334 := (by injection e334)
                  replace p334 := eq_true p334
                  replace q334 := eq_true q334
                  refine start_ (n := 16) (S := fun w' => w'.cell? (ad327.add ((x6_2).toNat * 3)) = some (.string ((rd_T52 l0 x6_2).f0)) ∧ w'.cell? ⟨(ad327.add ((x6_2).toNat * 3)).block, (ad327.add ((x6_2).toNat * 3)).off + 1, none⟩ = some (.int .i64 ((rd_T52 l0 x6_2).f1)) ∧ w'.cell? ⟨(ad327.add ((x6_2).toNat * 3)).block, (ad327.add ((x6_2).toNat * 3)).off + 2, none⟩ = some (.bool ((rd_T52 l0 x6_2).f2)) ∧ w'.cell? (ad326.add ((x9_3).toNat * 3)) = some (.string ((rd_T52 x5_2 x9_3).f0)) ∧ w'.cell? ⟨(ad326.add ((x9_3).toNat * 3)).block, (ad326.add ((x9_3).toNat * 3)).off + 1, none⟩ = some (.int .i64 ((rd_T52 x5_2 x9_3).f1)) ∧ w'.cell? ⟨(ad326.add ((x9_3).toNat * 3)).block, (ad326.add ((x9_3).toNat * 3)).off + 2, none⟩ = some (.bool ((rd_T52 x5_2 x9_3).f2))) (ds := []) (mkB 16 0) (by kernel_rfl) rfl rfl ⟨crA hw333_0, crA hw333_1, crA hw333_2, hx334_0, hx334_1, hx334_2⟩ (fun hHeld => ?_); refine with_tabW caduceusref04_Sort.tab19 caduceusref04_Sort.bits19 (fun HT_ HW_ => ?_)
                  generalize w40.drew = w41 at HO_5 HO_7 HB hx333_0 hx333_1 hx333_2 hx334_0 hx334_1 hx334_2 hHeld ⊢
                  refine pureA 0 (some 48) (mkB 16 1) ?_
                  refine pureA 1 (some 49) (mkB 16 3) ?_
                  refine pureA 2 (some 50) (mkB 16 7) ?_
                  refine pureA 3 (some 51) (mkB 16 15) ?_
                  refine pureA 4 (some 52) (mkB 16 31) ?_
                  refine pureA 5 (some 53) (mkB 16 63) ?_
                  refine pureA 6 (some 54) (mkB 16 127) ?_
                  refine pureA 8 (some 56) (mkB 16 383) ?_
                  refine pureA 9 (some 57) (mkB 16 895) ?_
                  refine pureA 10 (some 58) (mkB 16 1919) ?_
                  refine pureA 11 (some 59) (mkB 16 3967) ?_
                  refine takeA 7 (some 55) (mkB 16 4095) ?_ rfl (Or.inl ⟨by rfl, by rintro w' ⟨s0, s1, s2, s3, s4, s5⟩; go_simp; with_reducible rfl⟩)
                  refine takeA 12 (some 60) (mkB 16 8191) ?_ rfl (Or.inl ⟨by rfl, by rintro w' ⟨s0, s1, s2, s3, s4, s5⟩; go_simp; with_reducible rfl⟩)
                  refine oneA 13 (some 61) (mkB 16 16383) (fun K hK => ?_)
                  refine goes_ Tryz.func25 (by kernel_rfl) rfl #[.string ((rd_T52 l0 x6_2).f0), .string ((rd_T52 x5_2 x9_3).f0)] (by rfl) rfl rfl (by (try simp only [List.map_toArray, List.map_cons, List.map_nil]); first | done | rfl | (simp only [List.length_drop, List.length_take]; rfl)) ?_
                  with_reducible refine (caduceusref02_Compare.calls k3 ((rd_T52 l0 x6_2).f0) ((rd_T52 x5_2 x9_3).f0) t335 _ A26.out).mono ?_
                  rintro e w42 ⟨rfl, hb⟩
                  have HS3_ := (hb.cell (World.block_lt_of_cell? _ _ (hHeld.2.2.2.1))).trans (hHeld.2.2.2.1)
                  have HS4_ := (hb.cell (World.block_lt_of_cell? _ _ (hHeld.2.2.2.2.1))).trans (hHeld.2.2.2.2.1)
                  have HS5_ := (hb.cell (World.block_lt_of_cell? _ _ (hHeld.2.2.2.2.2))).trans (hHeld.2.2.2.2.2)
                  refine ⟨_, rfl, ?_⟩
                  have n0_ := Aside0.mk (Kd.R_below (by (with_reducible repeat (first | apply Kd.R_alloc | apply Kd.R_drewN | apply Kd.R_drew)); exact HO_5.out) hb)
                  have n1_ := Aside0.mk (Kd.R_below (by (with_reducible repeat (first | apply Kd.R_alloc | apply Kd.R_drewN | apply Kd.R_drew)); exact HO_7.out) hb)
                  have n2_ := Aside0.mk (below_step (bwA) hb)
                  clear HO_5
                  clear HO_7
                  clear HB
                  have HO_5 := n0_
                  have HO_7 := n1_
                  have HB := n2_
                  clear n0_ n1_ n2_
                  (try clear hb); (try clear hb2); (try clear hk); (try clear hi)
                  refine hK.out _ _ ⟨crA hw333_0, crA hw333_1, crA hw333_2, HS3_, HS4_, HS5_⟩ (fun hHeld => ?_)
                  clear hK K
                  refine normA ?_
                  refine pureA 14 (some 62) (mkB 16 32767) ?_
                  refine pureA 15 (some 63) (mkB 16 65535) ?_
                  refine done_ (done_of HT_.out (by kernel_rfl)) ?_
                  have p344 : 0 ≤ (x9_3 : Int) := odA
                  have q344 : x9_3 < (x5_2.length : Int) := odA
                  obtain ⟨ad344, e344, hx344_0, hx344_1, hx344_2⟩ := at_T52 (Kd.R_reads' HO_5.out).2.2 x9_3 p344 q344
                  obtain rfl : ad326 = ad344 := (by injection e344)
                  replace p344 := eq_true p344
                  replace q344 := eq_true q344
                  try go_wp2_with (first | ((with_reducible refine gate_builtin (b := .append) (xs := #[.tmp 71, .tmp 76]) rfl ?_); at_builtin; refine Kd.R_append k52 (w0 := w) w.heap.size rfl (.tmp 71) (.tmp 76) 28 52 (.agg #[(.string ⟨#[]⟩), (.int .i64 0), (.bool false)]) 32 rfl Tryz.underlying28 info52 rfl (by decide) (by omega) u7 x7_3 (⟨(rd_T52 x5_2 x9_3).f0, (rd_T52 x5_2 x9_3).f1, (rd_T52 x5_2 x9_3).f2⟩ : S52) [.string ((rd_T52 x5_2 x9_3).f0), .int .i64 ((rd_T52 x5_2 x9_3).f1), .bool ((rd_T52 x5_2 x9_3).f2)] (fun k_ => some k_ ≠ (.slice (some ad326) x5_2.length co38 : Value).ownBlock) (fun _ => False) rfl rfl ?aP (fun _ hk => hk.elim) ?aF ?aO ?aB ?aS ?aL ?_; (case aP => exact k52_mkM _ _ _ (⟨(rd_T52 x5_2 x9_3).f0, (rd_T52 x5_2 x9_3).f1, (rd_T52 x5_2 x9_3).f2⟩ : S52)); (case aB => exact (bwA)); (case aF => exact (fun k_ hk => Kd.fresh' (Kd.R_lt (by (with_reducible repeat (first | apply Kd.R_alloc | apply Kd.R_drewN | apply Kd.R_drew)); exact HO_5.out)) k_ hk)); (case aO => exact (by (with_reducible repeat (first | apply Kd.R_alloc | apply Kd.R_drewN | apply Kd.R_drew)); exact HO_7.out)); (case aS => exact (below_size (bwA))); (case aL => have := LMc37.out; omega); intro v346 w43 ho hb hg hat; rw [← Ny345.out] at ho; have n0_ := Aside0.mk (Kd.R_after (ok := (fun _ => True)) (by (with_reducible repeat (first | apply Kd.R_alloc | apply Kd.R_drewN | apply Kd.R_drew)); exact Kd.R_mono HO_5.out (fun _ hk => ⟨trivial, hk⟩)) hg hat); have n1_ := Aside0.mk (hb); have n2_ := Aside0.mk (ho); clear HO_5; clear HB; clear HO_7; have HO_5 := n0_; have HB := n1_; have HO347 := n2_; clear n0_ n1_ n2_; clear ho hb hg hat))
                  go_roundg k3
                  case measure => have := HK1.out; have := HK2.out; have := HK3.out; omega
                  case rel => exact ⟨(y345), (false), (wrap64 (x9_3 + 1)), (endS), (endS), H', ⟨by have := HK1.out; have := HK2.out; have := HK3.out; omega⟩, ⟨by (with_reducible repeat (first | apply Kd.R_alloc | apply Kd.R_drewN | apply Kd.R_drew)); exact Kd.R_mono HO_5.out (fun _ hk => hk.2)⟩, ⟨by (with_reducible repeat (first | apply Kd.R_alloc | apply Kd.R_drewN | apply Kd.R_drew)); exact HO347.out⟩, ⟨bwA⟩⟩
                 ·rw [if_neg c37] at H
                  exact absurd H (by simp)
             ·rw [if_neg c13] at H
              exact absurd H (by simp)
            ·rw [if_neg c12] at H
             exact absurd H (by simp)
           ·rw [if_neg c11] at H
            exact absurd H (by simp)
          ·rw [if_neg c10] at H
           have c10b0 : decide (x9_3 < (x5_2.length : Int)) = false := decide_eq_false c10
           clear c10
           by_cases c44 : x8_3 = true
           ·subst c44
            have H1 : (caduceusref04_Sort.l1 k3 l0 x7_3 (wrap64 (x6_2 + 1))) = some (r1, r2) := by rw [if_pos rfl] at H; exact H
            clear H
            have H := H1
            clear H1
            have H' := Aside0.mk H
            clear H
            obtain ⟨Ao45, co45, eo45⟩ := Kd.R_slice HO_5.out
            subst eo45
            go_wp2
            go_roundg k3
            case measure => have := HK1.out; have := HK2.out; have := HK3.out; omega
            case rel => exact ⟨(x7_3), (wrap64 (x6_2 + 1)), (endS), H', ⟨by have := HK1.out; have := HK2.out; have := HK3.out; omega⟩, ⟨by (with_reducible repeat (first | apply Kd.R_alloc | apply Kd.R_drewN | apply Kd.R_drew)); exact Kd.R_mono HO_7.out (fun _ hk => trivial)⟩, ⟨bwA⟩⟩
           ·replace c44 := Bool.eq_false_iff.mpr c44
            subst c44
            have H1 : (if 0 ≤ x6_2 then (if x6_2 < (l0.length : Int) then (if x7_3.length < 4398046511104 then (caduceusref04_Sort.l1 k3 l0 (x7_3 ++ [(⟨(rd_T52 l0 x6_2).f0, (rd_T52 l0 x6_2).f1, (rd_T52 l0 x6_2).f2⟩ : S52)]) (wrap64 (x6_2 + 1))) else (none)) else (none)) else (none)) = some (r1, r2) := by rw [if_neg (show ¬ (false = true) by decide)] at H; exact H
            clear H
            have H := H1
            clear H1
            by_cases c46 : 0 ≤ x6_2
            ·rw [if_pos c46] at H
             have c46b0 : decide (0 ≤ x6_2) = true := decide_eq_true c46
             clear c46
             by_cases c47 : x6_2 < (l0.length : Int)
             ·rw [if_pos c47] at H
              have c47b0 : decide (x6_2 < (l0.length : Int)) = true := decide_eq_true c47
              clear c47
              by_cases c48 : x7_3.length < 4398046511104
              ·rw [if_pos c48] at H
               have LMc48 := Aside0.mk c48
               clear c48
               obtain ⟨y323, hy323⟩ : ∃ y_ : List (S52), y_ = (x7_3 ++ [(⟨(rd_T52 l0 x6_2).f0, (rd_T52 l0 x6_2).f1, (rd_T52 l0 x6_2).f2⟩ : S52)]) := ⟨_, rfl⟩
               replace H : (caduceusref04_Sort.l1 k3 l0 y323 (wrap64 (x6_2 + 1))) = some (r1, r2) := by first | (rw [hy323]; with_reducible exact H) | (have H2_ := (Option.bind_some _ _).symm.trans H; rw [hy323]; with_reducible exact H2_) | (have H2_ := (Option.bind_some _ _).symm.trans H; with_reducible exact H2_) | with_reducible exact H | (rw [hy323]; exact H) | exact H
               have Ny323 := Aside0.mk hy323
               clear hy323
               have H' := Aside0.mk H
               clear H
               obtain ⟨Ao49, co49, eo49⟩ := Kd.R_slice HO_5.out
               subst eo49
               have p322 : 0 ≤ (x6_2 : Int) := odA
               have q322 : x6_2 < (l0.length : Int) := odA
               obtain ⟨ad322, e322, hx322_0, hx322_1, hx322_2⟩ := at_T52 HR0.out x6_2 p322 q322
               cases e322
               replace hx322_0 := crA hx322_0
               replace hx322_1 := crA hx322_1
               replace hx322_2 := crA hx322_2
               replace p322 := eq_true p322
               replace q322 := eq_true q322
               go_wp2_with (first | ((with_reducible refine gate_builtin (b := .append) (xs := #[.tmp 80, .tmp 85]) rfl ?_); at_builtin; refine Kd.R_append k52 (w0 := w) w.heap.size rfl (.tmp 80) (.tmp 85) 28 52 (.agg #[(.string ⟨#[]⟩), (.int .i64 0), (.bool false)]) 32 rfl Tryz.underlying28 info52 rfl (by decide) (by omega) u7 x7_3 (⟨(rd_T52 l0 x6_2).f0, (rd_T52 l0 x6_2).f1, (rd_T52 l0 x6_2).f2⟩ : S52) [.string ((rd_T52 l0 x6_2).f0), .int .i64 ((rd_T52 l0 x6_2).f1), .bool ((rd_T52 l0 x6_2).f2)] (fun k_ => some k_ ≠ (.slice Ao49 x5_2.length co49 : Value).ownBlock) (fun _ => False) rfl rfl ?aP (fun _ hk => hk.elim) ?aF ?aO ?aB ?aS ?aL ?_; (case aP => exact k52_mkM _ _ _ (⟨(rd_T52 l0 x6_2).f0, (rd_T52 l0 x6_2).f1, (rd_T52 l0 x6_2).f2⟩ : S52)); (case aB => exact (bwA)); (case aF => exact (fun k_ hk => Kd.fresh' (Kd.R_lt (by (with_reducible repeat (first | apply Kd.R_alloc | apply Kd.R_drewN | apply Kd.R_drew)); exact HO_5.out)) k_ hk)); (case aO => exact (by (with_reducible repeat (first | apply Kd.R_alloc | apply Kd.R_drewN | apply Kd.R_drew)); exact HO_7.out)); (case aS => exact (below_size (bwA))); (case aL => have := LMc48.out; omega); intro v324 w50 ho hb hg hat; rw [← Ny323.out] at ho; have n0_ := Aside0.mk (Kd.R_after (ok := (fun _ => True)) (by (with_reducible repeat (first | apply Kd.R_alloc | apply Kd.R_drewN | apply Kd.R_drew)); exact Kd.R_mono HO_5.out (fun _ hk => ⟨trivial, hk⟩)) hg hat); have n1_ := Aside0.mk (hb); have n2_ := Aside0.mk (ho); clear HO_5; clear HB; clear HO_7; have HO_5 := n0_; have HB := n1_; have HO325 := n2_; clear n0_ n1_ n2_; clear ho hb hg hat))
               go_roundg k3
               case measure => have := HK1.out; have := HK2.out; have := HK3.out; omega
               case rel => exact ⟨(y323), (wrap64 (x6_2 + 1)), (endS), H', ⟨by have := HK1.out; have := HK2.out; have := HK3.out; omega⟩, ⟨by (with_reducible repeat (first | apply Kd.R_alloc | apply Kd.R_drewN | apply Kd.R_drew)); exact Kd.R_mono HO325.out (fun _ hk => trivial)⟩, ⟨bwA⟩⟩
              ·rw [if_neg c48] at H
               exact absurd H (by simp)
             ·rw [if_neg c47] at H
              exact absurd H (by simp)
            ·rw [if_neg c46] at H
             exact absurd H (by simp)
       ·rw [if_neg c9] at H
        have c9b0 : decide (x6_2 < (l0.length : Int)) = false := decide_eq_false c9
        clear c9
        simp only [Option.some.injEq, Prod.mk.injEq] at H
        obtain ⟨rfl, rfl⟩ := H
        go_wp2
        go_ret2
        exact ⟨_, endA, by (with_reducible repeat (first | apply Kd.R_alloc | apply Kd.R_drewN | apply Kd.R_drew)); exact HO_5.out, bwA⟩

end Go.Proofs.YtbbfggfiknbdmaaGreatDoor.A
