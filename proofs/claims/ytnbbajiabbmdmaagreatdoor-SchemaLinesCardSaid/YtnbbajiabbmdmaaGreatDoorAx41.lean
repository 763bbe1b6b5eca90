-- By drv.py, the session's own driver round the kit's print: the machine's side of the laws, function by function. Not trusted: Lean checks it.
import Derived.Test.YtnbbajiabbmdmaaGreatDoorAx0
import Derived.Test.YtnbbajiabbmdmaaGreatDoorAx40
namespace Go.Proofs.YtnbbajiabbmdmaaGreatDoor.A
open Go.RowKit Go.Proofs.YtnbbajiabbmdmaaGreatDoorW.PrintWords Go.Proofs.YtnbbajiabbmdmaaGreatDoorW.PrintLast Go.Proofs.YtnbbajiabbmdmaaGreatDoorW.PrintMore
attribute [local go_sem] max2_int min2_int max_two min_two max_three min_three max_four min_four   -- for this text's walks alone
set_option linter.unusedVariables false
set_option linter.unusedSimpArgs false

/-! ### caduceusref04_Parse: function 25 -/
mutual
def caduceusref04_Parse.l0 : Nat → ByteArray → List (S72) → Int → Int → Option ((List (S72)) × Int)
 | 0, _, _, _, _ => none
 | k + 1, x0, x4, x5, x6 => if x6 ≤ (x0.size : Int) then (if x6 < (x0.size : Int) then (if 0 ≤ x6 then (caduceusref04_Parse.j1 k x0 x4 x5 x6 ((bt x0 x6) != 44)) else (none)) else (caduceusref04_Parse.j1 k x0 x4 x5 x6 false)) else (if x0.toList = ([] : List UInt8) then (some (([] : List (S72)), 3)) else ((caduceusref04_Show.f k x4).bind fun t396 => (if t396.toList = x0.toList then (some (x4, 0)) else (some (([] : List (S72)), 3)))))
def caduceusref04_Parse.j1 : Nat → ByteArray → List (S72) → Int → Int → Bool → Option ((List (S72)) × Int)
 | 0, _, _, _, _, _ => none
 | k + 1, x0, x4, x5, x6, x29 => if x29 = true then (caduceusref04_Parse.l0 k x0 x4 x5 (wrap64 (x6 + 1))) else (if 0 ≤ x5 then (if x5 ≤ x6 then (if x6 ≤ (x0.size : Int) then (if ((x0.extract (x5 : Int).toNat (x6 : Int).toNat).size : Int) > 0 then (if 0 < ((x0.extract (x5 : Int).toNat (x6 : Int).toNat).size : Int) then (if (bt (x0.extract (x5 : Int).toNat (x6 : Int).toNat) 0) = 32 then (caduceusref04_Parse.j2 k x0 x4 x6 (x0.extract (x5 : Int).toNat (x6 : Int).toNat) (decide (x5 > 0))) else (caduceusref04_Parse.j2 k x0 x4 x6 (x0.extract (x5 : Int).toNat (x6 : Int).toNat) false)) else (none)) else (caduceusref04_Parse.j2 k x0 x4 x6 (x0.extract (x5 : Int).toNat (x6 : Int).toNat) false)) else (none)) else (none)) else (none))
def caduceusref04_Parse.j2 : Nat → ByteArray → List (S72) → Int → ByteArray → Bool → Option ((List (S72)) × Int)
 | 0, _, _, _, _, _ => none
 | k + 1, x0, x4, x6, x7, x45 => if x45 = true then (if 1 ≤ (x7.size : Int) then (caduceusref04_Parse.j3 k x0 x4 x6 (x7.extract 1 x7.size)) else (none)) else (caduceusref04_Parse.j3 k x0 x4 x6 x7)
def caduceusref04_Parse.j3 : Nat → ByteArray → List (S72) → Int → ByteArray → Option ((List (S72)) × Int)
 | 0, _, _, _, _ => none
 | k + 1, x0, x4, x6, x7 => caduceusref04_Parse.l1 k x0 x4 x6 x7 0 (⟨#[]⟩ : ByteArray) 0 false
def caduceusref04_Parse.j5 : Nat → ByteArray → List (S72) → Int → ByteArray → Int → ByteArray → Int → Bool → Option ((List (S72)) × Int)
 | 0, _, _, _, _, _, _, _, _ => none
 | k + 1, x0, x4, x6, x7, x9, x398000, x398001, x398002 => if 0 ≤ x9 then (if x9 ≤ (x7.size : Int) then (if x9 < (x7.size : Int) then (if 0 ≤ (wrap64 (x9 + 1)) then (if (wrap64 (x9 + 1)) ≤ (x7.size : Int) then (caduceusref04_Parse.j6 k x0 x4 x6 (x7.extract ((wrap64 (x9 + 1)) : Int).toNat x7.size) (x7.extract 0 (x9 : Int).toNat) x398001 x398002) else (none)) else (none)) else (caduceusref04_Parse.j6 k x0 x4 x6 (⟨#[]⟩ : ByteArray) (x7.extract 0 (x9 : Int).toNat) x398001 x398002)) else (none)) else (none)
def caduceusref04_Parse.j6 : Nat → ByteArray → List (S72) → Int → ByteArray → ByteArray → Int → Bool → Option ((List (S72)) × Int)
 | 0, _, _, _, _, _, _, _ => none
 | k + 1, x0, x4, x6, x10, x398000, x398001, x398002 => if (x10.size : Int) > 0 then (if 0 ≤ (wrap64 ((x10.size : Int) - 1)) then (if (wrap64 ((x10.size : Int) - 1)) < (x10.size : Int) then (caduceusref04_Parse.j7 k x0 x4 x6 x10 ((bt x10 (wrap64 ((x10.size : Int) - 1))) == 33) x398000 x398001 x398002) else (none)) else (none)) else (caduceusref04_Parse.j7 k x0 x4 x6 x10 false x398000 x398001 x398002)
def caduceusref04_Parse.j7 : Nat → ByteArray → List (S72) → Int → ByteArray → Bool → ByteArray → Int → Bool → Option ((List (S72)) × Int)
 | 0, _, _, _, _, _, _, _, _ => none
 | k + 1, x0, x4, x6, x10, x82, x398000, x398001, x398002 => if x82 = true then (if 0 ≤ (wrap64 ((x10.size : Int) - 1)) then (if (wrap64 ((x10.size : Int) - 1)) ≤ (x10.size : Int) then (caduceusref04_Parse.j8 k x0 x4 x6 (x10.extract 0 ((wrap64 ((x10.size : Int) - 1)) : Int).toNat) x398000 x398001 true) else (none)) else (none)) else (caduceusref04_Parse.j8 k x0 x4 x6 x10 x398000 x398001 x398002)
def caduceusref04_Parse.j8 : Nat → ByteArray → List (S72) → Int → ByteArray → ByteArray → Int → Bool → Option ((List (S72)) × Int)
 | 0, _, _, _, _, _, _, _ => none
 | k + 1, x0, x4, x6, x10, x398000, x398001, x398002 => caduceusref04_Parse.l2 k x0 x4 x6 x10 1 x398000 x398001 x398002
def caduceusref04_Parse.l2 : Nat → ByteArray → List (S72) → Int → ByteArray → Int → ByteArray → Int → Bool → Option ((List (S72)) × Int)
 | 0, _, _, _, _, _, _, _, _ => none
 | k + 1, x0, x4, x6, x10, x11, x398000, x398001, x398002 => if x11 ≤ 4 then ((caduceusref04_word.f x11).bind fun t398 => (if t398.toList = x10.toList then (caduceusref04_Parse.l2 k x0 x4 x6 x10 (wrap64 (x11 + 1)) x398000 x11 x398002) else (caduceusref04_Parse.l2 k x0 x4 x6 x10 (wrap64 (x11 + 1)) x398000 x398001 x398002))) else (if x4.length < 4398046511104 then (caduceusref04_Parse.l0 k x0 (x4 ++ [(⟨x398000, x398001, x398002⟩ : S72)]) (wrap64 (x6 + 1)) (wrap64 (x6 + 1))) else (none))
def caduceusref04_Parse.l1 : Nat → ByteArray → List (S72) → Int → ByteArray → Int → ByteArray → Int → Bool → Option ((List (S72)) × Int)
 | 0, _, _, _, _, _, _, _, _ => none
 | k + 1, x0, x4, x6, x7, x9, x398000, x398001, x398002 => if x9 < (x7.size : Int) then (if 0 ≤ x9 then (if (bt x7 x9) = 32 then (caduceusref04_Parse.j5 k x0 x4 x6 x7 x9 x398000 x398001 x398002) else (caduceusref04_Parse.l1 k x0 x4 x6 x7 (wrap64 (x9 + 1)) x398000 x398001 x398002)) else (none)) else (caduceusref04_Parse.j5 k x0 x4 x6 x7 x9 x398000 x398001 x398002)
end
def caduceusref04_Parse.f (k : Nat) (a0 : ByteArray) : Option ((List (S72)) × Int) := if a0.toList = ([45] : List UInt8) then (some (([] : List (S72)), 0)) else (caduceusref04_Parse.l0 k a0 ([] : List (S72)) 0 0)
theorem caduceusref04_Parse.mono_l : ∀ k, (∀ y0 y1 y2 y3, LeO (caduceusref04_Parse.l0 k y0 y1 y2 y3) (caduceusref04_Parse.l0 (k + 1) y0 y1 y2 y3)) ∧ (∀ y0 y1 y2 y3 y4, LeO (caduceusref04_Parse.j1 k y0 y1 y2 y3 y4) (caduceusref04_Parse.j1 (k + 1) y0 y1 y2 y3 y4)) ∧ (∀ y0 y1 y2 y3 y4, LeO (caduceusref04_Parse.j2 k y0 y1 y2 y3 y4) (caduceusref04_Parse.j2 (k + 1) y0 y1 y2 y3 y4)) ∧ (∀ y0 y1 y2 y3, LeO (caduceusref04_Parse.j3 k y0 y1 y2 y3) (caduceusref04_Parse.j3 (k + 1) y0 y1 y2 y3)) ∧ (∀ y0 y1 y2 y3 y4 y5 y6 y7, LeO (caduceusref04_Parse.j5 k y0 y1 y2 y3 y4 y5 y6 y7) (caduceusref04_Parse.j5 (k + 1) y0 y1 y2 y3 y4 y5 y6 y7)) ∧ (∀ y0 y1 y2 y3 y4 y5 y6, LeO (caduceusref04_Parse.j6 k y0 y1 y2 y3 y4 y5 y6) (caduceusref04_Parse.j6 (k + 1) y0 y1 y2 y3 y4 y5 y6)) ∧ (∀ y0 y1 y2 y3 y4 y5 y6 y7, LeO (caduceusref04_Parse.j7 k y0 y1 y2 y3 y4 y5 y6 y7) (caduceusref04_Parse.j7 (k + 1) y0 y1 y2 y3 y4 y5 y6 y7)) ∧ (∀ y0 y1 y2 y3 y4 y5 y6, LeO (caduceusref04_Parse.j8 k y0 y1 y2 y3 y4 y5 y6) (caduceusref04_Parse.j8 (k + 1) y0 y1 y2 y3 y4 y5 y6)) ∧ (∀ y0 y1 y2 y3 y4 y5 y6 y7, LeO (caduceusref04_Parse.l2 k y0 y1 y2 y3 y4 y5 y6 y7) (caduceusref04_Parse.l2 (k + 1) y0 y1 y2 y3 y4 y5 y6 y7)) ∧ (∀ y0 y1 y2 y3 y4 y5 y6 y7, LeO (caduceusref04_Parse.l1 k y0 y1 y2 y3 y4 y5 y6 y7) (caduceusref04_Parse.l1 (k + 1) y0 y1 y2 y3 y4 y5 y6 y7))
 | 0 => ⟨fun _ _ _ _ r h => by simp [caduceusref04_Parse.l0] at h, fun _ _ _ _ _ r h => by simp [caduceusref04_Parse.j1] at h, fun _ _ _ _ _ r h => by simp [caduceusref04_Parse.j2] at h, fun _ _ _ _ r h => by simp [caduceusref04_Parse.j3] at h, fun _ _ _ _ _ _ _ _ r h => by simp [caduceusref04_Parse.j5] at h, fun _ _ _ _ _ _ _ r h => by simp [caduceusref04_Parse.j6] at h, fun _ _ _ _ _ _ _ _ r h => by simp [caduceusref04_Parse.j7] at h, fun _ _ _ _ _ _ _ r h => by simp [caduceusref04_Parse.j8] at h, fun _ _ _ _ _ _ _ _ r h => by simp [caduceusref04_Parse.l2] at h, fun _ _ _ _ _ _ _ _ r h => by simp [caduceusref04_Parse.l1] at h⟩
 | k + 1 => by
  obtain ⟨ih0, ih1, ih2, ih3, ih4, ih5, ih6, ih7, ih8, ih9⟩ := caduceusref04_Parse.mono_l k
  refine ⟨?_, ?_, ?_, ?_, ?_, ?_, ?_, ?_, ?_, ?_⟩
  all_goals intros
  all_goals first | unfold caduceusref04_Parse.l0 | unfold caduceusref04_Parse.j1 | unfold caduceusref04_Parse.j2 | unfold caduceusref04_Parse.j3 | unfold caduceusref04_Parse.j5 | unfold caduceusref04_Parse.j6 | unfold caduceusref04_Parse.j7 | unfold caduceusref04_Parse.j8 | unfold caduceusref04_Parse.l2 | unfold caduceusref04_Parse.l1
  all_goals repeat' first
   | (with_reducible exact ih0 _ _ _ _)
   | (with_reducible exact ih1 _ _ _ _ _)
   | (with_reducible exact ih2 _ _ _ _ _)
   | (with_reducible exact ih3 _ _ _ _)
   | (with_reducible exact ih4 _ _ _ _ _ _ _ _)
   | (with_reducible exact ih5 _ _ _ _ _ _ _)
   | (with_reducible exact ih6 _ _ _ _ _ _ _ _)
   | (with_reducible exact ih7 _ _ _ _ _ _ _)
   | (with_reducible exact ih8 _ _ _ _ _ _ _ _)
   | (with_reducible exact ih9 _ _ _ _ _ _ _ _)
   | (with_reducible exact caduceusref04_Show.mono _ _)
   | (with_reducible exact LeO.refl _)
   | (with_reducible exact LeO.none _)
   | (with_reducible refine LeO.ite ?_ ?_)
   | (with_reducible refine LeO.bind ?_ (fun _ => ?_))
   | exact ih0 _ _ _ _
   | exact ih1 _ _ _ _ _
   | exact ih2 _ _ _ _ _
   | exact ih3 _ _ _ _
   | exact ih4 _ _ _ _ _ _ _ _
   | exact ih5 _ _ _ _ _ _ _
   | exact ih6 _ _ _ _ _ _ _ _
   | exact ih7 _ _ _ _ _ _ _
   | exact ih8 _ _ _ _ _ _ _ _
   | exact ih9 _ _ _ _ _ _ _ _
   | exact caduceusref04_Show.mono _ _
   | exact LeO.none _
   | refine LeO.ite ?_ ?_
   | refine LeO.bind ?_ (fun _ => ?_)
theorem caduceusref04_Parse.mono : ∀ a0 k, LeO (caduceusref04_Parse.f k a0) (caduceusref04_Parse.f (k + 1) a0) := by
 intro a0 k
 obtain ⟨ih0, ih1, ih2, ih3, ih4, ih5, ih6, ih7, ih8, ih9⟩ := caduceusref04_Parse.mono_l k
 unfold caduceusref04_Parse.f
 repeat' first
   | (with_reducible exact ih0 _ _ _ _)
   | (with_reducible exact ih1 _ _ _ _ _)
   | (with_reducible exact ih2 _ _ _ _ _)
   | (with_reducible exact ih3 _ _ _ _)
   | (with_reducible exact ih4 _ _ _ _ _ _ _ _)
   | (with_reducible exact ih5 _ _ _ _ _ _ _)
   | (with_reducible exact ih6 _ _ _ _ _ _ _ _)
   | (with_reducible exact ih7 _ _ _ _ _ _ _)
   | (with_reducible exact ih8 _ _ _ _ _ _ _ _)
   | (with_reducible exact ih9 _ _ _ _ _ _ _ _)
   | (with_reducible exact caduceusref04_Show.mono _ _)
   | (with_reducible exact LeO.refl _)
   | (with_reducible exact LeO.none _)
   | (with_reducible refine LeO.ite ?_ ?_)
   | (with_reducible refine LeO.bind ?_ (fun _ => ?_))
   | exact ih0 _ _ _ _
   | exact ih1 _ _ _ _ _
   | exact ih2 _ _ _ _ _
   | exact ih3 _ _ _ _
   | exact ih4 _ _ _ _ _ _ _ _
   | exact ih5 _ _ _ _ _ _ _
   | exact ih6 _ _ _ _ _ _ _ _
   | exact ih7 _ _ _ _ _ _ _
   | exact ih8 _ _ _ _ _ _ _ _
   | exact ih9 _ _ _ _ _ _ _ _
   | exact caduceusref04_Show.mono _ _
   | exact LeO.none _
   | refine LeO.ite ?_ ?_
   | refine LeO.bind ?_ (fun _ => ?_)
set_option maxHeartbeats 8000000 in
set_option maxRecDepth 100000 in
theorem caduceusref04_Parse.calls (k : Nat) (a0 : ByteArray) (r1 : List (S72)) (r2 : Int) (w : World) (h : caduceusref04_Parse.f k a0 = some (r1, r2)) :
  Calls Tryz.prog 25 #[.string a0] w fun e w' => ∃ v0_ : Value, e = .returned (.tuple #[v0_, .int .i64 r2]) ∧ Kd.R k72 72 w' w.heap.size (fun _ => True) v0_ r1 ∧ Below w.heap.size w w' := by
 have hu72 := Tryz.underlying72
 have HB := Aside0.mk (Below.refl w.heap.size w)
 have H : (if a0.toList = ([45] : List UInt8) then (some (([] : List (S72)), 0)) else (caduceusref04_Parse.l0 k a0 ([] : List (S72)) 0 0)) = some (r1, r2) := h
 clear h
 by_cases c2 : a0.toList = ([45] : List UInt8)
 ·rw [if_pos c2] at H
  have c2b0 : (a0.toList == ([45] : List UInt8)) = true := beq_iff_eq.mpr c2
  have c2b1 : (a0.toList != ([45] : List UInt8)) = false := bne_eq_false_iff_eq.mpr c2
  clear c2
  simp only [Option.some.injEq, Prod.mk.injEq] at H
  obtain ⟨rfl, rfl⟩ := H
  go_enter Tryz.func25, Tryz.ntmps25
  go_wp2
  go_ret2
  exact ⟨_, endA, by first | exact Kd.R_nil _ _ _ _ _ | exact Kd.N_nil _ _ _ _ _ | exact Kd.V_nil _ _ _ _ _ | exact Kd.Q_nil _ _ _ _ _ | exact Kd.S_nil _ _ _ _ _, bwA⟩
 ·rw [if_neg c2] at H
  have c2b0 : (a0.toList == ([45] : List UInt8)) = false := beq_eq_false_iff_ne.mpr c2
  have c2b1 : (a0.toList != ([45] : List UInt8)) = true := bne_iff_ne.mpr c2
  have H' := Aside0.mk H
  clear H
  go_enter Tryz.func25, Tryz.ntmps25
  go_wp2
  go_loopg [4, 5, 6] k (fun kq v4 v5 v6 w' => ∃ (x4_1 : List (S72)) (x5_1 : Int) (x6_1 : Int), v5 = .int .i64 x5_1 ∧ v6 = .int .i64 x6_1 ∧ Aside0 (caduceusref04_Parse.l0 kq a0 x4_1 x5_1 x6_1 = some (r1, r2)) ∧ Aside0 (kq ≤ k) ∧ Aside0 (Kd.R k72 72 w' w.heap.size (fun _ => True) v4 x4_1) ∧ Aside0 (Below w.heap.size w w'))
  case atStart => exact ⟨(([] : List (S72))), (0), (0), (endS), (endS), H', ⟨Nat.le_refl _⟩, ⟨by first | exact Kd.R_nil _ _ _ _ _ | exact Kd.N_nil _ _ _ _ _ | exact Kd.V_nil _ _ _ _ _ | exact Kd.Q_nil _ _ _ _ _ | exact Kd.S_nil _ _ _ _ _⟩, ⟨bwA⟩⟩
  case round =>
   clear H'
   try clear c2
   try clear c2b0
   try clear c2b1
   try clear p2
   obtain ⟨x4_1, x5_1, x6_1, rfl, rfl, HA, HK1, HO_4, HB⟩ := hrel
   cases gk with
   | zero => exact absurd HA.out (by simp [caduceusref04_Parse.l0])
   | succ k1 =>
    have H := HA.out
    clear HA
    simp only [caduceusref04_Parse.l0] at H
    by_cases c3 : x6_1 ≤ (a0.size : Int)
    ·rw [if_pos c3] at H
     have c3b0 : decide (x6_1 ≤ (a0.size : Int)) = true := decide_eq_true c3
     clear c3
     have HC4 := Aside0.mk H
     clear H
     go_upto_region 8 with (fail)
     go_cut [29] (fun v29 wc => ∃ (kq : Nat) (x29_3 : Bool), v29 = .bool x29_3 ∧ Aside0 (caduceusref04_Parse.j1 kq a0 x4_1 x5_1 x6_1 x29_3 = some (r1, r2)) ∧ Aside0 (kq ≤ k1) ∧ Aside0 (Kd.R k72 72 wc w.heap.size (fun _ => True) u4 x4_1) ∧ Aside0 (Below w.heap.size w wc))
     case first =>
      have H := HC4.out
      clear HC4
      by_cases c5 : x6_1 < (a0.size : Int)
      ·rw [if_pos c5] at H
       have c5b0 : decide (x6_1 < (a0.size : Int)) = true := decide_eq_true c5
       clear c5
       (first | rw [c5b0] | (simp only [i64_w, i32_w]; rw [c5b0]) | skip)
       by_cases c6 : 0 ≤ x6_1
       ·rw [if_pos c6] at H
        have c6b0 : decide (0 ≤ x6_1) = true := decide_eq_true c6
        clear c6
        have H' := Aside0.mk H
        clear H
        have p7 : 0 ≤ (x6_1 : Int) := odA
        have q7 : x6_1 < (a0.size : Int) := odA
        have hx7 := bt_at a0 x6_1
        replace p7 := eq_true p7
        replace q7 := eq_true q7
        go_wp2
        go_meet
        case rel => exact ⟨_, (((bt a0 x6_1) != 44)), (endS), H', ⟨by have := HK1.out; first | omega | exact Nat.le_refl _⟩, ⟨by (with_reducible repeat (first | apply Kd.R_alloc | apply Kd.R_drewN | apply Kd.R_drew)); exact HO_4.out⟩, ⟨bwA⟩⟩
       ·rw [if_neg c6] at H
        exact absurd H (by simp)
      ·rw [if_neg c5] at H
       have c5b0 : decide (x6_1 < (a0.size : Int)) = false := decide_eq_false c5
       clear c5
       (first | rw [c5b0] | (simp only [i64_w, i32_w]; rw [c5b0]) | skip)
       have H' := Aside0.mk H
       clear H
       go_wp2
       go_meet
       case rel => exact ⟨_, (false), (endS), H', ⟨by have := HK1.out; first | omega | exact Nat.le_refl _⟩, ⟨by (with_reducible repeat (first | apply Kd.R_alloc | apply Kd.R_drewN | apply Kd.R_drew)); exact HO_4.out⟩, ⟨bwA⟩⟩
     case rest =>
      clear HC4
      try clear c2
      try clear c2b0
      try clear c2b1
      try clear p2
      try clear c3
      try clear c3b0
      try clear c5
      try clear c5b0
      try clear c6
      try clear c6b0
      try clear p7
      try clear q7
      try clear hx7
      try clear p2
      try clear p7
      try clear q7
      obtain ⟨kq, x29_3, rfl, HA, HJ3, HO_4, HB⟩ := hcut
      cases kq with
      | zero => exact absurd HA.out (by simp [caduceusref04_Parse.j1])
      | succ kj3 =>
       have H := HA.out
       clear HA
       simp only [caduceusref04_Parse.j1] at H
       by_cases c8 : x29_3 = true
       ·subst c8
        have H1 : (caduceusref04_Parse.l0 kj3 a0 x4_1 x5_1 (wrap64 (x6_1 + 1))) = some (r1, r2) := by rw [if_pos rfl] at H; exact H
        clear H
        have H := H1
        clear H1
        have H' := Aside0.mk H
        clear H
        go_wp2
        go_roundg kj3
        case measure => have := HK1.out; have := HJ3.out; omega
        case rel => exact ⟨(x4_1), (x5_1), (wrap64 (x6_1 + 1)), (endS), (endS), H', ⟨by have := HK1.out; have := HJ3.out; omega⟩, ⟨by (with_reducible repeat (first | apply Kd.R_alloc | apply Kd.R_drewN | apply Kd.R_drew)); exact HO_4.out⟩, ⟨bwA⟩⟩
       ·replace c8 := Bool.eq_false_iff.mpr c8
        subst c8
        have H1 : (if 0 ≤ x5_1 then (if x5_1 ≤ x6_1 then (if x6_1 ≤ (a0.size : Int) then (if ((a0.extract (x5_1 : Int).toNat (x6_1 : Int).toNat).size : Int) > 0 then (if 0 < ((a0.extract (x5_1 : Int).toNat (x6_1 : Int).toNat).size : Int) then (if (bt (a0.extract (x5_1 : Int).toNat (x6_1 : Int).toNat) 0) = 32 then (caduceusref04_Parse.j2 kj3 a0 x4_1 x6_1 (a0.extract (x5_1 : Int).toNat (x6_1 : Int).toNat) (decide (x5_1 > 0))) else (caduceusref04_Parse.j2 kj3 a0 x4_1 x6_1 (a0.extract (x5_1 : Int).toNat (x6_1 : Int).toNat) false)) else (none)) else (caduceusref04_Parse.j2 kj3 a0 x4_1 x6_1 (a0.extract (x5_1 : Int).toNat (x6_1 : Int).toNat) false)) else (none)) else (none)) else (none)) = some (r1, r2) := by rw [if_neg (show ¬ (false = true) by decide)] at H; exact H
        clear H
        have H := H1
        clear H1
        by_cases c9 : 0 ≤ x5_1
        ·rw [if_pos c9] at H
         have c9b0 := eq_true c9
         have c9b1 : decide (0 ≤ x5_1) = true := decide_eq_true c9
         clear c9
         by_cases c10 : x5_1 ≤ x6_1
         ·rw [if_pos c10] at H
          have c10b0 := eq_true c10
          have c10b1 : decide (x5_1 ≤ x6_1) = true := decide_eq_true c10
          clear c10
          by_cases c11 : x6_1 ≤ (a0.size : Int)
          ·rw [if_pos c11] at H
           have c11b0 := eq_true c11
           have c11b1 : decide (x6_1 ≤ (a0.size : Int)) = true := decide_eq_true c11
           clear c11
           have HC12 := Aside0.mk H
           clear H
           go_upto_region 10 with (fail)
           generalize a0.extract (x5_1 : Int).toNat (x6_1 : Int).toNat = tx at HC12 ⊢
           go_cut [45] (fun v45 wc => ∃ (kq : Nat) (x45_11 : Bool), v45 = .bool x45_11 ∧ Aside0 (caduceusref04_Parse.j2 kq a0 x4_1 x6_1 tx x45_11 = some (r1, r2)) ∧ Aside0 (kq ≤ kj3) ∧ Aside0 (Kd.R k72 72 wc w.heap.size (fun _ => True) u4 x4_1) ∧ Aside0 (Below w.heap.size w wc))
           case first =>
            have H := HC12.out
            clear HC12
            by_cases c13 : (tx.size : Int) > 0
            ·rw [if_pos c13] at H
             have c13b0 : decide (0 < (tx.size : Int)) = true := decide_eq_true c13
             have c13b1 : decide (0 < tx.size) = true := decide_eq_true (by omega)
             clear c13
             (first | rw [c13b0] | (simp only [i64_w, i32_w]; rw [c13b0]) | skip)
             by_cases c14 : 0 < (tx.size : Int)
             ·rw [if_pos c14] at H
              have c14b0 : decide (0 < (tx.size : Int)) = true := decide_eq_true c14
              have c14b1 : decide (0 < tx.size) = true := decide_eq_true (by omega)
              clear c14
              by_cases c16 : (bt tx 0) = 32
              ·rw [if_pos c16] at H
               have c16b0 : ((bt tx 0) == 32) = true := beq_iff_eq.mpr c16
               have c16b1 : ((bt tx 0) != 32) = false := bne_eq_false_iff_eq.mpr c16
               clear c16
               have H' := Aside0.mk H
               clear H
               have p15 : 0 ≤ (0 : Int) := (by omega)
               have q15 : 0 < tx.size := (by have : (0 : Int) < (tx.size : Int) := odA; omega)
               have hx15 : ∀ h : 0 < tx.size, ((tx[0]'h).toNat : Int) = bt tx 0 := bt_at tx 0
               clear p15
               have qi15 : (0 < (tx.size : Int)) = True := eq_true (odA)
               replace q15 := eq_true q15
               go_wp2
               go_meet
               case rel => exact ⟨_, (decide (x5_1 > 0)), (endS), H', ⟨by have := HK1.out; have := HJ3.out; first | omega | exact Nat.le_refl _⟩, ⟨by (with_reducible repeat (first | apply Kd.R_alloc | apply Kd.R_drewN | apply Kd.R_drew)); exact HO_4.out⟩, ⟨bwA⟩⟩
              ·rw [if_neg c16] at H
               have c16b0 : ((bt tx 0) == 32) = false := beq_eq_false_iff_ne.mpr c16
               have c16b1 : ((bt tx 0) != 32) = true := bne_iff_ne.mpr c16
               have H' := Aside0.mk H
               clear H
               have p15 : 0 ≤ (0 : Int) := (by omega)
               have q15 : 0 < tx.size := (by have : (0 : Int) < (tx.size : Int) := odA; omega)
               have hx15 : ∀ h : 0 < tx.size, ((tx[0]'h).toNat : Int) = bt tx 0 := bt_at tx 0
               clear p15
               have qi15 : (0 < (tx.size : Int)) = True := eq_true (odA)
               replace q15 := eq_true q15
               go_wp2
               go_meet
               case rel => exact ⟨_, (false), (endS), H', ⟨by have := HK1.out; have := HJ3.out; first | omega | exact Nat.le_refl _⟩, ⟨by (with_reducible repeat (first | apply Kd.R_alloc | apply Kd.R_drewN | apply Kd.R_drew)); exact HO_4.out⟩, ⟨bwA⟩⟩
             ·rw [if_neg c14] at H
              exact absurd H (by simp)
            ·rw [if_neg c13] at H
             have c13b0 : decide (0 < (tx.size : Int)) = false := decide_eq_false c13
             have c13b1 : decide (0 < tx.size) = false := decide_eq_false (by omega)
             clear c13
             (first | rw [c13b0] | (simp only [i64_w, i32_w]; rw [c13b0]) | skip)
             have H' := Aside0.mk H
             clear H
             go_wp2
             go_meet
             case rel => exact ⟨_, (false), (endS), H', ⟨by have := HK1.out; have := HJ3.out; first | omega | exact Nat.le_refl _⟩, ⟨by (with_reducible repeat (first | apply Kd.R_alloc | apply Kd.R_drewN | apply Kd.R_drew)); exact HO_4.out⟩, ⟨bwA⟩⟩
           case rest =>
            clear HC12
            try clear c1
            try clear p1
            try clear q1
            try clear hx1
            try clear qi1
            try clear c2
            try clear c2b0
            try clear c2b1
            try clear p2
            try clear c3
            try clear c3b0
            try clear c5
            try clear c5b0
            try clear c6
            try clear c6b0
            try clear p6
            try clear p7
            try clear q7
            try clear hx7
            try clear c8
            try clear c9
            try clear c9b0
            try clear c9b1
            try clear c10
            try clear c10b0
            try clear c10b1
            try clear c11
            try clear c11b0
            try clear c11b1
            try clear c13
            try clear c13b0
            try clear c13b1
            try clear c14
            try clear c14b0
            try clear c14b1
            try clear p15
            try clear q15
            try clear hx15
            try clear qi15
            try clear c16
            try clear c16b0
            try clear c16b1
            try clear p15
            try clear p2
            try clear p7
            try clear q15
            try clear q7
            obtain ⟨kq, x45_11, rfl, HA, HJ11, HO_4, HB⟩ := hcut
            cases kq with
            | zero => exact absurd HA.out (by simp [caduceusref04_Parse.j2])
            | succ kj11 =>
             have H := HA.out
             clear HA
             simp only [caduceusref04_Parse.j2] at H
             have HC17 := Aside0.mk H
             clear H
             go_upto_if 45 with (fail)
             go_cut [7] (fun v7 wc => ∃ (kq : Nat) (x7_16 : ByteArray), v7 = .string x7_16 ∧ Aside0 (caduceusref04_Parse.j3 kq a0 x4_1 x6_1 x7_16 = some (r1, r2)) ∧ Aside0 (kq ≤ kj11) ∧ Aside0 (Kd.R k72 72 wc w.heap.size (fun _ => True) u4 x4_1) ∧ Aside0 (Below w.heap.size w wc))
             case first =>
              have H := HC17.out
              clear HC17
              by_cases c18 : x45_11 = true
              ·subst c18
               have H1 : (if 1 ≤ (tx.size : Int) then (caduceusref04_Parse.j3 kj11 a0 x4_1 x6_1 (tx.extract 1 tx.size)) else (none)) = some (r1, r2) := by rw [if_pos rfl] at H; exact H
               clear H
               have H := H1
               clear H1
               by_cases c19 : 1 ≤ (tx.size : Int)
               ·rw [if_pos c19] at H
                have c19b0 := eq_true c19
                have c19b1 : decide (1 ≤ (tx.size : Int)) = true := decide_eq_true c19
                clear c19
                have H' := Aside0.mk H
                clear H
                go_wp2
                go_meet
                case rel => exact ⟨_, (tx.extract 1 tx.size), (endS), H', ⟨by have := HK1.out; have := HJ3.out; have := HJ11.out; first | omega | exact Nat.le_refl _⟩, ⟨by (with_reducible repeat (first | apply Kd.R_alloc | apply Kd.R_drewN | apply Kd.R_drew)); exact HO_4.out⟩, ⟨bwA⟩⟩
               ·rw [if_neg c19] at H
                exact absurd H (by simp)
              ·replace c18 := Bool.eq_false_iff.mpr c18
               subst c18
               have H1 : (caduceusref04_Parse.j3 kj11 a0 x4_1 x6_1 tx) = some (r1, r2) := by rw [if_neg (show ¬ (false = true) by decide)] at H; exact H
               clear H
               have H := H1
               clear H1
               have H' := Aside0.mk H
               clear H
               go_wp2
               go_meet
               case rel => exact ⟨_, (tx), (endS), H', ⟨by have := HK1.out; have := HJ3.out; have := HJ11.out; first | omega | exact Nat.le_refl _⟩, ⟨by (with_reducible repeat (first | apply Kd.R_alloc | apply Kd.R_drewN | apply Kd.R_drew)); exact HO_4.out⟩, ⟨bwA⟩⟩
             case rest =>
              clear HC17
              try clear c1
              try clear p1
              try clear q1
              try clear hx1
              try clear qi1
              try clear c2
              try clear c2b0
              try clear c2b1
              try clear p2
              try clear c3
              try clear c3b0
              try clear c5
              try clear c5b0
              try clear c6
              try clear c6b0
              try clear p6
              try clear p7
              try clear q7
              try clear hx7
              try clear c8
              try clear c9
              try clear c9b0
              try clear c9b1
              try clear c10
              try clear c10b0
              try clear c10b1
              try clear c11
              try clear c11b0
              try clear c11b1
              try clear c13
              try clear c13b0
              try clear c13b1
              try clear c14
              try clear c14b0
              try clear c14b1
              try clear p15
              try clear q15
              try clear hx15
              try clear qi15
              try clear c16
              try clear c16b0
              try clear c16b1
              try clear c18
              try clear c19
              try clear c19b0
              try clear c19b1
              try clear p1
              try clear p15
              try clear p2
              try clear p6
              try clear p7
              try clear q1
              try clear q15
              try clear q7
              obtain ⟨kq, x7_16, rfl, HA, HJ16, HO_4, HB⟩ := hcut
              cases kq with
              | zero => exact absurd HA.out (by simp [caduceusref04_Parse.j3])
              | succ kj16 =>
               have H := HA.out
               clear HA
               simp only [caduceusref04_Parse.j3] at H
               have HC20 := Aside0.mk H
               clear H
               go_upto_block 2 with (first | ((with_reducible refine gate_dst (N := 8) rfl ?_); (try (refine gate_guard (by rfl) ?_; dsimp only)); refine box_event ?hg (N := 8) ?hd (cs := #[.string (⟨#[]⟩ : ByteArray), .int .i64 0, .bool false]) (t := 72) ?hr ?_; (case hd => rfl); (case hg => rfl); (case hr => first | (go_simp; done) | (go_simp; rfl)); intro gb397 hg w21 hbox hb; have n0_ := Aside0.mk (Kd.R_below (Kd.R_elderB (by (with_reducible repeat (first | apply Kd.R_alloc | apply Kd.R_drewN | apply Kd.R_drew)); exact HO_4.out) gb397 (Nat.le_of_eq hg.symm)) hb); have n1_ := Aside0.mk (below_step (bwA) hb); have n2_ := Aside0.mk (hbox); have n3_ := Aside0.mk ((by rw [hg]; exact (below_size (bwA)) : w.heap.size ≤ gb397)); have n4_ := Aside0.mk ((by rw [hg]; exact (below_size (bwA)) : w.heap.size ≤ gb397)); clear HO_4; clear HB; have HO_4 := n0_; have HB := n1_; have BK397 := n2_; have GW397 := n3_; have GE397 := n4_; clear n0_ n1_ n2_ n3_ n4_; clear hb hbox hg))
               (try simp only [Act.put, List.setIfInBounds_toArray, List.set_cons_zero, List.set_cons_succ])
               go_cut [9] (fun v9 wc => ∃ (kq : Nat) (x9_19 : Int), v9 = .int .i64 x9_19 ∧ Aside0 (caduceusref04_Parse.j5 kq a0 x4_1 x6_1 x7_16 x9_19 (⟨#[]⟩ : ByteArray) 0 false = some (r1, r2)) ∧ Aside0 (kq ≤ kj16) ∧ Aside0 (Kd.R k72 72 wc w.heap.size (fun k_ => k_ ≠ gb397) u4 x4_1) ∧ Aside0 (wc.heap[gb397]? = some (.cells #[.string (⟨#[]⟩ : ByteArray), .int .i64 0, .bool false] 72 (0, 0))) ∧ Aside0 (Below w.heap.size w wc))
               case first =>
                have H := HC20.out
                clear HC20
                have H' := Aside0.mk H
                clear H
                go_wp2
                go_loopg [9] kj16 (fun kq v9 w' => ∃ (x9_5 : Int), v9 = .int .i64 x9_5 ∧ Aside0 (caduceusref04_Parse.l1 kq a0 x4_1 x6_1 x7_16 x9_5 (⟨#[]⟩ : ByteArray) 0 false = some (r1, r2)) ∧ Aside0 (kq ≤ kj16) ∧ Aside0 (Kd.R k72 72 w' w.heap.size (fun k_ => k_ ≠ gb397) u4 x4_1) ∧ Aside0 (w'.heap[gb397]? = some (.cells #[.string (⟨#[]⟩ : ByteArray), .int .i64 0, .bool false] 72 (0, 0))) ∧ Aside0 (Below w.heap.size w w'))
                case atStart => exact ⟨(0), (endS), H', ⟨Nat.le_refl _⟩, ⟨by (with_reducible repeat (first | apply Kd.R_alloc | apply Kd.R_drewN | apply Kd.R_drew)); exact Kd.R_mono HO_4.out (fun _ hk => hk.2)⟩, ⟨by (with_reducible repeat (first | refine blk_drewN ?_ _ | refine blk_drew ?_ | refine blk_alloc ?_ _)); exact BK397.out⟩, ⟨bwA⟩⟩
                case round =>
                 clear H'
                 try clear c1
                 try clear p1
                 try clear q1
                 try clear hx1
                 try clear qi1
                 try clear c2
                 try clear c2b0
                 try clear c2b1
                 try clear p2
                 try clear c3
                 try clear c3b0
                 try clear c5
                 try clear c5b0
                 try clear c6
                 try clear c6b0
                 try clear p6
                 try clear p7
                 try clear q7
                 try clear hx7
                 try clear c8
                 try clear c9
                 try clear c9b0
                 try clear c9b1
                 try clear c10
                 try clear c10b0
                 try clear c10b1
                 try clear c11
                 try clear c11b0
                 try clear c11b1
                 try clear c13
                 try clear c13b0
                 try clear c13b1
                 try clear c14
                 try clear c14b0
                 try clear c14b1
                 try clear p15
                 try clear q15
                 try clear hx15
                 try clear qi15
                 try clear c16
                 try clear c16b0
                 try clear c16b1
                 try clear c18
                 try clear c19
                 try clear c19b0
                 try clear c19b1
                 try clear p1
                 try clear p15
                 try clear p2
                 try clear p6
                 try clear p7
                 try clear q1
                 try clear q15
                 try clear q7
                 obtain ⟨x9_5, rfl, HA, HK5, HO_4, BK397, HB⟩ := hrel
                 cases gk with
                 | zero => exact absurd HA.out (by simp [caduceusref04_Parse.l1])
                 | succ k5 =>
                  have H := HA.out
                  clear HA
                  simp only [caduceusref04_Parse.l1] at H
                  by_cases c22 : x9_5 < (x7_16.size : Int)
                  ·rw [if_pos c22] at H
                   have c22b0 : decide (x9_5 < (x7_16.size : Int)) = true := decide_eq_true c22
                   clear c22
                   (first | rw [c22b0] | (simp only [i64_w, i32_w]; rw [c22b0]) | skip)
                   by_cases c23 : 0 ≤ x9_5
                   ·rw [if_pos c23] at H
                    have c23b0 : decide (0 ≤ x9_5) = true := decide_eq_true c23
                    clear c23
                    by_cases c25 : (bt x7_16 x9_5) = 32
                    ·rw [if_pos c25] at H
                     have c25b0 : ((bt x7_16 x9_5) == 32) = true := beq_iff_eq.mpr c25
                     have c25b1 : ((bt x7_16 x9_5) != 32) = false := bne_eq_false_iff_eq.mpr c25
                     clear c25
                     have H' := Aside0.mk H
                     clear H
                     have p24 : 0 ≤ (x9_5 : Int) := odA
                     have q24 : x9_5 < (x7_16.size : Int) := odA
                     have hx24 := bt_at x7_16 x9_5
                     replace p24 := eq_true p24
                     replace q24 := eq_true q24
                     go_wp2
                     go_meet
                     case rel => exact ⟨_, (x9_5), (endS), H', ⟨by have := HK1.out; have := HJ3.out; have := HJ11.out; have := HJ16.out; have := HK5.out; first | omega | exact Nat.le_refl _⟩, ⟨by (with_reducible repeat (first | apply Kd.R_alloc | apply Kd.R_drewN | apply Kd.R_drew)); exact HO_4.out⟩, ⟨by (with_reducible repeat (first | refine blk_drewN ?_ _ | refine blk_drew ?_ | refine blk_alloc ?_ _)); exact BK397.out⟩, ⟨bwA⟩⟩
                    ·rw [if_neg c25] at H
                     have c25b0 : ((bt x7_16 x9_5) == 32) = false := beq_eq_false_iff_ne.mpr c25
                     have c25b1 : ((bt x7_16 x9_5) != 32) = true := bne_iff_ne.mpr c25
                     have H' := Aside0.mk H
                     clear H
                     have p24 : 0 ≤ (x9_5 : Int) := odA
                     have q24 : x9_5 < (x7_16.size : Int) := odA
                     have hx24 := bt_at x7_16 x9_5
                     replace p24 := eq_true p24
                     replace q24 := eq_true q24
                     go_wp2
                     go_roundg k5
                     case measure => have := HK1.out; have := HJ3.out; have := HJ11.out; have := HJ16.out; have := HK5.out; omega
                     case rel => exact ⟨(wrap64 (x9_5 + 1)), (endS), H', ⟨by have := HK1.out; have := HJ3.out; have := HJ11.out; have := HJ16.out; have := HK5.out; omega⟩, ⟨by (with_reducible repeat (first | apply Kd.R_alloc | apply Kd.R_drewN | apply Kd.R_drew)); exact HO_4.out⟩, ⟨by (with_reducible repeat (first | refine blk_drewN ?_ _ | refine blk_drew ?_ | refine blk_alloc ?_ _)); exact BK397.out⟩, ⟨bwA⟩⟩
                   ·rw [if_neg c23] at H
                    exact absurd H (by simp)
                  ·rw [if_neg c22] at H
                   have c22b0 : decide (x9_5 < (x7_16.size : Int)) = false := decide_eq_false c22
                   clear c22
                   (first | rw [c22b0] | (simp only [i64_w, i32_w]; rw [c22b0]) | skip)
                   have H' := Aside0.mk H
                   clear H
                   go_wp2
                   go_meet
                   case rel => exact ⟨_, (x9_5), (endS), H', ⟨by have := HK1.out; have := HJ3.out; have := HJ11.out; have := HJ16.out; have := HK5.out; first | omega | exact Nat.le_refl _⟩, ⟨by (with_reducible repeat (first | apply Kd.R_alloc | apply Kd.R_drewN | apply Kd.R_drew)); exact HO_4.out⟩, ⟨by (with_reducible repeat (first | refine blk_drewN ?_ _ | refine blk_drew ?_ | refine blk_alloc ?_ _)); exact BK397.out⟩, ⟨bwA⟩⟩
               case rest =>
                clear HC20
                try clear c1
                try clear p1
                try clear q1
                try clear hx1
                try clear qi1
                try clear c2
                try clear c2b0
                try clear c2b1
                try clear p2
                try clear q2
                try clear hx2
                try clear c3
                try clear c3b0
                try clear c5
                try clear c5b0
                try clear c6
                try clear c6b0
                try clear p6
                try clear p7
                try clear q7
                try clear hx7
                try clear c8
                try clear c9
                try clear c9b0
                try clear c9b1
                try clear c10
                try clear c10b0
                try clear c10b1
                try clear c11
                try clear c11b0
                try clear c11b1
                try clear c13
                try clear c13b0
                try clear c13b1
                try clear c14
                try clear c14b0
                try clear c14b1
                try clear p15
                try clear q15
                try clear hx15
                try clear qi15
                try clear c16
                try clear c16b0
                try clear c16b1
                try clear c18
                try clear c19
                try clear c19b0
                try clear c19b1
                try clear c22
                try clear c22b0
                try clear c23
                try clear c23b0
                try clear p24
                try clear q24
                try clear hx24
                try clear c25
                try clear c25b0
                try clear c25b1
                try clear p1
                try clear p15
                try clear p2
                try clear p24
                try clear p6
                try clear p7
                try clear q1
                try clear q15
                try clear q24
                try clear q7
                obtain ⟨kq, x9_19, rfl, HA, HJ19, HO_4, BK397, HB⟩ := hcut
                cases kq with
                | zero => exact absurd HA.out (by simp [caduceusref04_Parse.j5])
                | succ kj19 =>
                 have H := HA.out
                 clear HA
                 simp only [caduceusref04_Parse.j5] at H
                 by_cases c26 : 0 ≤ x9_19
                 ·rw [if_pos c26] at H
                  have c26b0 := eq_true c26
                  have c26b1 : decide (0 ≤ x9_19) = true := decide_eq_true c26
                  clear c26
                  by_cases c27 : x9_19 ≤ (x7_16.size : Int)
                  ·rw [if_pos c27] at H
                   have c27b0 := eq_true c27
                   have c27b1 : decide (x9_19 ≤ (x7_16.size : Int)) = true := decide_eq_true c27
                   clear c27
                   have HC28 := Aside0.mk H
                   clear H
                   have hcz29_0 : wc.cell? ⟨gb397, 0, none⟩ = some (.string (⟨#[]⟩ : ByteArray)) := (blk_cell BK397.out 0).trans rfl
                   have hcz29_1 : wc.cell? ⟨gb397, 1, none⟩ = some (.int .i64 0) := (blk_cell BK397.out 1).trans rfl
                   have hcz29_2 : wc.cell? ⟨gb397, 2, none⟩ = some (.bool false) := (blk_cell BK397.out 2).trans rfl
                   have hfz29_0 := blk_frozen BK397.out 0
                   have hfz29_1 := blk_frozen BK397.out 1
                   have hfz29_2 := blk_frozen BK397.out 2
                   go_upto_if 67 with (fail)
                   go_cut [10] (fun v10 wc => ∃ (kq : Nat) (x10_27 : ByteArray), v10 = .string x10_27 ∧ Aside0 (caduceusref04_Parse.j6 kq a0 x4_1 x6_1 x10_27 (x7_16.extract 0 (x9_19 : Int).toNat) 0 false = some (r1, r2)) ∧ Aside0 (kq ≤ kj19) ∧ Aside0 (Kd.R k72 72 wc w.heap.size (fun k_ => k_ ≠ gb397) u4 x4_1) ∧ Aside0 (wc.heap[gb397]? = some (.cells #[.string (x7_16.extract 0 (x9_19 : Int).toNat), .int .i64 0, .bool false] 72 (0, 0))) ∧ Aside0 (Below w.heap.size w wc))
                   case first =>
                    have H := HC28.out
                    clear HC28
                    by_cases c30 : x9_19 < (x7_16.size : Int)
                    ·rw [if_pos c30] at H
                     have c30b0 : decide (x9_19 < (x7_16.size : Int)) = true := decide_eq_true c30
                     clear c30
                     (first | rw [c30b0] | (simp only [i64_w, i32_w]; rw [c30b0]) | skip)
                     obtain ⟨ji31, hji31⟩ : ∃ j_ : Int, (wrap64 (x9_19 + 1)) = j_ := ⟨_, rfl⟩
                     replace H : (if 0 ≤ (ji31) then (if (ji31) ≤ (x7_16.size : Int) then (caduceusref04_Parse.j6 kj19 a0 x4_1 x6_1 (x7_16.extract ((ji31) : Int).toNat x7_16.size) (x7_16.extract 0 (x9_19 : Int).toNat) 0 false) else (none)) else (none)) = some (r1, r2) := by first | (rw [hji31] at H; exact H) | (simp only [hji31] at H ⊢; exact H)
                     have hji31w : (IntKind.i64.wrap (x9_19 + 1)) = ji31 := (i64_w _).trans hji31
                     by_cases c32 : 0 ≤ (ji31)
                     ·rw [if_pos c32] at H
                      have c32b0 := eq_true c32
                      have c32b1 : decide (0 ≤ (ji31)) = true := decide_eq_true c32
                      clear c32
                      by_cases c33 : (ji31) ≤ (x7_16.size : Int)
                      ·rw [if_pos c33] at H
                       have c33b0 := eq_true c33
                       have c33b1 : decide ((ji31) ≤ (x7_16.size : Int)) = true := decide_eq_true c33
                       clear c33
                       have H' := Aside0.mk H
                       clear H
                       go_wp2
                       go_meet
                       case rel => exact ⟨_, (x7_16.extract ((ji31) : Int).toNat x7_16.size), (by first | rfl | (simp; done) | (simp only [← hji31] <;> (first | rfl | simp)) | (simp [*]; done)), H', ⟨by have := HK1.out; have := HJ3.out; have := HJ11.out; have := HJ16.out; have := HJ19.out; first | omega | exact Nat.le_refl _⟩, ⟨by (with_reducible repeat (first | apply Kd.R_alloc | apply Kd.R_drewN | apply Kd.R_drew)); exact Kd.R_mono (Kd.R_far (p := ⟨gb397, 0, none⟩) (Kd.R_mono HO_4.out (fun k_ hk => (⟨hk, hk⟩ : _ ∧ k_ ≠ gb397))) (fun _ hk => hk.2) (.string (x7_16.extract 0 (x9_19 : Int).toNat))) (fun _ hk => hk.1)⟩, ⟨by (with_reducible repeat (first | refine blk_drewN ?_ _ | refine blk_drew ?_ | refine blk_alloc ?_ _)); refine blk_put (cs := #[.string (⟨#[]⟩ : ByteArray), .int .i64 0, .bool false]) ?_ 0 _ rfl; (with_reducible repeat (first | refine blk_drewN ?_ _ | refine blk_drew ?_ | refine blk_alloc ?_ _)); exact BK397.out⟩, ⟨bwA⟩⟩
                      ·rw [if_neg c33] at H
                       exact absurd H (by simp)
                     ·rw [if_neg c32] at H
                      exact absurd H (by simp)
                    ·rw [if_neg c30] at H
                     have c30b0 : decide (x9_19 < (x7_16.size : Int)) = false := decide_eq_false c30
                     clear c30
                     (first | rw [c30b0] | (simp only [i64_w, i32_w]; rw [c30b0]) | skip)
                     have H' := Aside0.mk H
                     clear H
                     go_wp2
                     go_meet
                     case rel => exact ⟨_, ((⟨#[]⟩ : ByteArray)), (endS), H', ⟨by have := HK1.out; have := HJ3.out; have := HJ11.out; have := HJ16.out; have := HJ19.out; first | omega | exact Nat.le_refl _⟩, ⟨by (with_reducible repeat (first | apply Kd.R_alloc | apply Kd.R_drewN | apply Kd.R_drew)); exact Kd.R_mono (Kd.R_far (p := ⟨gb397, 0, none⟩) (Kd.R_mono HO_4.out (fun k_ hk => (⟨hk, hk⟩ : _ ∧ k_ ≠ gb397))) (fun _ hk => hk.2) (.string (x7_16.extract 0 (x9_19 : Int).toNat))) (fun _ hk => hk.1)⟩, ⟨by (with_reducible repeat (first | refine blk_drewN ?_ _ | refine blk_drew ?_ | refine blk_alloc ?_ _)); refine blk_put (cs := #[.string (⟨#[]⟩ : ByteArray), .int .i64 0, .bool false]) ?_ 0 _ rfl; (with_reducible repeat (first | refine blk_drewN ?_ _ | refine blk_drew ?_ | refine blk_alloc ?_ _)); exact BK397.out⟩, ⟨bwA⟩⟩
                   case rest =>
                    clear HC28
                    try clear c1
                    try clear p1
                    try clear q1
                    try clear hx1
                    try clear qi1
                    try clear c2
                    try clear c2b0
                    try clear c2b1
                    try clear p2
                    try clear q2
                    try clear hx2
                    try clear c3
                    try clear c3b0
                    try clear c5
                    try clear c5b0
                    try clear c6
                    try clear c6b0
                    try clear p6
                    try clear p7
                    try clear q7
                    try clear hx7
                    try clear c8
                    try clear c9
                    try clear c9b0
                    try clear c9b1
                    try clear c10
                    try clear c10b0
                    try clear c10b1
                    try clear c11
                    try clear c11b0
                    try clear c11b1
                    try clear c13
                    try clear c13b0
                    try clear c13b1
                    try clear c14
                    try clear c14b0
                    try clear c14b1
                    try clear p15
                    try clear q15
                    try clear hx15
                    try clear qi15
                    try clear c16
                    try clear c16b0
                    try clear c16b1
                    try clear c18
                    try clear c19
                    try clear c19b0
                    try clear c19b1
                    try clear c22
                    try clear c22b0
                    try clear c23
                    try clear c23b0
                    try clear p24
                    try clear q24
                    try clear hx24
                    try clear c25
                    try clear c25b0
                    try clear c25b1
                    try clear c26
                    try clear c26b0
                    try clear c26b1
                    try clear c27
                    try clear c27b0
                    try clear c27b1
                    try clear c30
                    try clear c30b0
                    try clear c32
                    try clear c32b0
                    try clear c32b1
                    try clear c33
                    try clear c33b0
                    try clear c33b1
                    try clear hcz29_0
                    try clear hcz29_1
                    try clear hcz29_2
                    try clear hfz29_0
                    try clear hfz29_1
                    try clear hfz29_2
                    try clear p1
                    try clear p15
                    try clear p2
                    try clear p24
                    try clear p6
                    try clear p7
                    try clear q1
                    try clear q15
                    try clear q2
                    try clear q24
                    try clear q7
                    obtain ⟨kq, x10_27, rfl, HA, HJ27, HO_4, BK397, HB⟩ := hcut
                    cases kq with
                    | zero => exact absurd HA.out (by simp [caduceusref04_Parse.j6])
                    | succ kj27 =>
                     have H := HA.out
                     clear HA
                     simp only [caduceusref04_Parse.j6] at H
                     have HC34 := Aside0.mk H
                     clear H
                     go_upto_region 20 with (fail)
                     go_cut [82] (fun v82 wc => ∃ (kq : Nat) (x82_33 : Bool), v82 = .bool x82_33 ∧ Aside0 (caduceusref04_Parse.j7 kq a0 x4_1 x6_1 x10_27 x82_33 (x7_16.extract 0 (x9_19 : Int).toNat) 0 false = some (r1, r2)) ∧ Aside0 (kq ≤ kj27) ∧ Aside0 (Kd.R k72 72 wc w.heap.size (fun k_ => k_ ≠ gb397) u4 x4_1) ∧ Aside0 (wc.heap[gb397]? = some (.cells #[.string (x7_16.extract 0 (x9_19 : Int).toNat), .int .i64 0, .bool false] 72 (0, 0))) ∧ Aside0 (Below w.heap.size w wc))
                     case first =>
                      have H := HC34.out
                      clear HC34
                      by_cases c35 : (x10_27.size : Int) > 0
                      ·rw [if_pos c35] at H
                       have c35b0 : decide (0 < (x10_27.size : Int)) = true := decide_eq_true c35
                       have c35b1 : decide (0 < x10_27.size) = true := decide_eq_true (by omega)
                       clear c35
                       (first | rw [c35b0] | (simp only [i64_w, i32_w]; rw [c35b0]) | skip)
                       obtain ⟨ji36, hji36⟩ : ∃ j_ : Int, (wrap64 ((x10_27.size : Int) - 1)) = j_ := ⟨_, rfl⟩
                       replace H : (if 0 ≤ (ji36) then (if (ji36) < (x10_27.size : Int) then (caduceusref04_Parse.j7 kj27 a0 x4_1 x6_1 x10_27 ((bt x10_27 (ji36)) == 33) (x7_16.extract 0 (x9_19 : Int).toNat) 0 false) else (none)) else (none)) = some (r1, r2) := by first | (rw [hji36] at H; exact H) | (simp only [hji36] at H ⊢; exact H)
                       have hji36w : (IntKind.i64.wrap ((x10_27.size : Int) - 1)) = ji36 := (i64_w _).trans hji36
                       by_cases c37 : 0 ≤ (ji36)
                       ·rw [if_pos c37] at H
                        have c37b0 : decide (0 ≤ (ji36)) = true := decide_eq_true c37
                        clear c37
                        by_cases c38 : (ji36) < (x10_27.size : Int)
                        ·rw [if_pos c38] at H
                         have c38b0 : decide ((ji36) < (x10_27.size : Int)) = true := decide_eq_true c38
                         clear c38
                         have H' := Aside0.mk H
                         clear H
                         have p39 : 0 ≤ ((ji36) : Int) := odA
                         have q39 : (ji36) < (x10_27.size : Int) := odA
                         have hx39 := bt_at x10_27 (ji36)
                         replace p39 := eq_true p39
                         replace q39 := eq_true q39
                         go_wp2
                         go_meet
                         case rel => exact ⟨_, (((bt x10_27 (ji36)) == 33)), (by first | rfl | (simp; done) | (simp only [← hji36] <;> (first | rfl | simp)) | (simp [*]; done)), H', ⟨by have := HK1.out; have := HJ3.out; have := HJ11.out; have := HJ16.out; have := HJ19.out; have := HJ27.out; first | omega | exact Nat.le_refl _⟩, ⟨by (with_reducible repeat (first | apply Kd.R_alloc | apply Kd.R_drewN | apply Kd.R_drew)); exact HO_4.out⟩, ⟨by (with_reducible repeat (first | refine blk_drewN ?_ _ | refine blk_drew ?_ | refine blk_alloc ?_ _)); exact BK397.out⟩, ⟨bwA⟩⟩
                        ·rw [if_neg c38] at H
                         exact absurd H (by simp)
                       ·rw [if_neg c37] at H
                        exact absurd H (by simp)
                      ·rw [if_neg c35] at H
                       have c35b0 : decide (0 < (x10_27.size : Int)) = false := decide_eq_false c35
                       have c35b1 : decide (0 < x10_27.size) = false := decide_eq_false (by omega)
                       clear c35
                       (first | rw [c35b0] | (simp only [i64_w, i32_w]; rw [c35b0]) | skip)
                       have H' := Aside0.mk H
                       clear H
                       go_wp2
                       go_meet
                       case rel => exact ⟨_, (false), (endS), H', ⟨by have := HK1.out; have := HJ3.out; have := HJ11.out; have := HJ16.out; have := HJ19.out; have := HJ27.out; first | omega | exact Nat.le_refl _⟩, ⟨by (with_reducible repeat (first | apply Kd.R_alloc | apply Kd.R_drewN | apply Kd.R_drew)); exact HO_4.out⟩, ⟨by (with_reducible repeat (first | refine blk_drewN ?_ _ | refine blk_drew ?_ | refine blk_alloc ?_ _)); exact BK397.out⟩, ⟨bwA⟩⟩
                     case rest =>
                      clear HC34
                      try clear c1
                      try clear p1
                      try clear q1
                      try clear hx1
                      try clear qi1
                      try clear c2
                      try clear c2b0
                      try clear c2b1
                      try clear p2
                      try clear q2
                      try clear hx2
                      try clear c3
                      try clear c3b0
                      try clear p3
                      try clear q3
                      try clear hx3
                      try clear c5
                      try clear c5b0
                      try clear c6
                      try clear c6b0
                      try clear p6
                      try clear p7
                      try clear q7
                      try clear hx7
                      try clear c8
                      try clear c9
                      try clear c9b0
                      try clear c9b1
                      try clear c10
                      try clear c10b0
                      try clear c10b1
                      try clear c11
                      try clear c11b0
                      try clear c11b1
                      try clear c13
                      try clear c13b0
                      try clear c13b1
                      try clear c14
                      try clear c14b0
                      try clear c14b1
                      try clear p15
                      try clear q15
                      try clear hx15
                      try clear qi15
                      try clear c16
                      try clear c16b0
                      try clear c16b1
                      try clear c18
                      try clear c19
                      try clear c19b0
                      try clear c19b1
                      try clear c22
                      try clear c22b0
                      try clear c23
                      try clear c23b0
                      try clear p24
                      try clear q24
                      try clear hx24
                      try clear c25
                      try clear c25b0
                      try clear c25b1
                      try clear c26
                      try clear c26b0
                      try clear c26b1
                      try clear c27
                      try clear c27b0
                      try clear c27b1
                      try clear c30
                      try clear c30b0
                      try clear c32
                      try clear c32b0
                      try clear c32b1
                      try clear c33
                      try clear c33b0
                      try clear c33b1
                      try clear c35
                      try clear c35b0
                      try clear c35b1
                      try clear c37
                      try clear c37b0
                      try clear c38
                      try clear c38b0
                      try clear p39
                      try clear q39
                      try clear hx39
                      try clear hcz29_0
                      try clear hcz29_1
                      try clear hcz29_2
                      try clear hfz29_0
                      try clear hfz29_1
                      try clear hfz29_2
                      try clear p1
                      try clear p15
                      try clear p2
                      try clear p24
                      try clear p39
                      try clear p6
                      try clear p7
                      try clear q1
                      try clear q15
                      try clear q2
                      try clear q24
                      try clear q39
                      try clear q7
                      obtain ⟨kq, x82_33, rfl, HA, HJ33, HO_4, BK397, HB⟩ := hcut
                      cases kq with
                      | zero => exact absurd HA.out (by simp [caduceusref04_Parse.j7])
                      | succ kj33 =>
                       have H := HA.out
                       clear HA
                       simp only [caduceusref04_Parse.j7] at H
                       have HC40 := Aside0.mk H
                       clear H
                       go_upto_if 82 with (fail)
                       go_cut [10] (fun v10 wc => ∃ (kq : Nat) (x10_39 : ByteArray) (x398002_39 : Bool), v10 = .string x10_39 ∧ Aside0 (caduceusref04_Parse.j8 kq a0 x4_1 x6_1 x10_39 (x7_16.extract 0 (x9_19 : Int).toNat) 0 x398002_39 = some (r1, r2)) ∧ Aside0 (kq ≤ kj33) ∧ Aside0 (Kd.R k72 72 wc w.heap.size (fun k_ => k_ ≠ gb397) u4 x4_1) ∧ Aside0 (wc.heap[gb397]? = some (.cells #[.string (x7_16.extract 0 (x9_19 : Int).toNat), .int .i64 0, .bool x398002_39] 72 (0, 0))) ∧ Aside0 (Below w.heap.size w wc))
                       case first =>
                        have H := HC40.out
                        clear HC40
                        by_cases c41 : x82_33 = true
                        ·subst c41
                         have H1 : (if 0 ≤ (wrap64 ((x10_27.size : Int) - 1)) then (if (wrap64 ((x10_27.size : Int) - 1)) ≤ (x10_27.size : Int) then (caduceusref04_Parse.j8 kj33 a0 x4_1 x6_1 (x10_27.extract 0 ((wrap64 ((x10_27.size : Int) - 1)) : Int).toNat) (x7_16.extract 0 (x9_19 : Int).toNat) 0 true) else (none)) else (none)) = some (r1, r2) := by rw [if_pos rfl] at H; exact H
                         clear H
                         have H := H1
                         clear H1
                         obtain ⟨ji42, hji42⟩ : ∃ j_ : Int, (wrap64 ((x10_27.size : Int) - 1)) = j_ := ⟨_, rfl⟩
                         replace H : (if 0 ≤ (ji42) then (if (ji42) ≤ (x10_27.size : Int) then (caduceusref04_Parse.j8 kj33 a0 x4_1 x6_1 (x10_27.extract 0 ((ji42) : Int).toNat) (x7_16.extract 0 (x9_19 : Int).toNat) 0 true) else (none)) else (none)) = some (r1, r2) := by first | (rw [hji42] at H; exact H) | (simp only [hji42] at H ⊢; exact H)
                         have hji42w : (IntKind.i64.wrap ((x10_27.size : Int) - 1)) = ji42 := (i64_w _).trans hji42
                         by_cases c43 : 0 ≤ (ji42)
                         ·rw [if_pos c43] at H
                          have c43b0 := eq_true c43
                          have c43b1 : decide (0 ≤ (ji42)) = true := decide_eq_true c43
                          clear c43
                          by_cases c44 : (ji42) ≤ (x10_27.size : Int)
                          ·rw [if_pos c44] at H
                           have c44b0 := eq_true c44
                           have c44b1 : decide ((ji42) ≤ (x10_27.size : Int)) = true := decide_eq_true c44
                           clear c44
                           have H' := Aside0.mk H
                           clear H
                           have hcz45_0 : wc.cell? ⟨gb397, 0, none⟩ = some (.string (x7_16.extract 0 (x9_19 : Int).toNat)) := (blk_cell BK397.out 0).trans rfl
                           have hcz45_1 : wc.cell? ⟨gb397, 1, none⟩ = some (.int .i64 0) := (blk_cell BK397.out 1).trans rfl
                           have hcz45_2 : wc.cell? ⟨gb397, 2, none⟩ = some (.bool false) := (blk_cell BK397.out 2).trans rfl
                           have hfz45_0 := blk_frozen BK397.out 0
                           have hfz45_1 := blk_frozen BK397.out 1
                           have hfz45_2 := blk_frozen BK397.out 2
                           go_wp2
                           go_meet
                           case rel => exact ⟨_, (x10_27.extract 0 ((ji42) : Int).toNat), (true), (by first | rfl | (simp; done) | (simp only [← hji42] <;> (first | rfl | simp)) | (simp [*]; done)), H', ⟨by have := HK1.out; have := HJ3.out; have := HJ11.out; have := HJ16.out; have := HJ19.out; have := HJ27.out; have := HJ33.out; first | omega | exact Nat.le_refl _⟩, ⟨by (with_reducible repeat (first | apply Kd.R_alloc | apply Kd.R_drewN | apply Kd.R_drew)); exact Kd.R_mono (Kd.R_far (p := ⟨gb397, 2, none⟩) (Kd.R_mono HO_4.out (fun k_ hk => (⟨hk, hk⟩ : _ ∧ k_ ≠ gb397))) (fun _ hk => hk.2) (.bool true)) (fun _ hk => hk.1)⟩, ⟨by (with_reducible repeat (first | refine blk_drewN ?_ _ | refine blk_drew ?_ | refine blk_alloc ?_ _)); refine blk_put (cs := #[.string (x7_16.extract 0 (x9_19 : Int).toNat), .int .i64 0, .bool false]) ?_ 2 _ rfl; (with_reducible repeat (first | refine blk_drewN ?_ _ | refine blk_drew ?_ | refine blk_alloc ?_ _)); exact BK397.out⟩, ⟨bwA⟩⟩
                          ·rw [if_neg c44] at H
                           exact absurd H (by simp)
                         ·rw [if_neg c43] at H
                          exact absurd H (by simp)
                        ·replace c41 := Bool.eq_false_iff.mpr c41
                         subst c41
                         have H1 : (caduceusref04_Parse.j8 kj33 a0 x4_1 x6_1 x10_27 (x7_16.extract 0 (x9_19 : Int).toNat) 0 false) = some (r1, r2) := by rw [if_neg (show ¬ (false = true) by decide)] at H; exact H
                         clear H
                         have H := H1
                         clear H1
                         have H' := Aside0.mk H
                         clear H
                         go_wp2
                         go_meet
                         case rel => exact ⟨_, (x10_27), (false), (endS), H', ⟨by have := HK1.out; have := HJ3.out; have := HJ11.out; have := HJ16.out; have := HJ19.out; have := HJ27.out; have := HJ33.out; first | omega | exact Nat.le_refl _⟩, ⟨by (with_reducible repeat (first | apply Kd.R_alloc | apply Kd.R_drewN | apply Kd.R_drew)); exact HO_4.out⟩, ⟨by (with_reducible repeat (first | refine blk_drewN ?_ _ | refine blk_drew ?_ | refine blk_alloc ?_ _)); exact BK397.out⟩, ⟨bwA⟩⟩
                       case rest =>
                        clear HC40
                        try clear c1
                        try clear p1
                        try clear q1
                        try clear hx1
                        try clear qi1
                        try clear c2
                        try clear c2b0
                        try clear c2b1
                        try clear p2
                        try clear q2
                        try clear hx2
                        try clear c3
                        try clear c3b0
                        try clear p3
                        try clear q3
                        try clear hx3
                        try clear c4
                        try clear c5
                        try clear c5b0
                        try clear c6
                        try clear c6b0
                        try clear p6
                        try clear p7
                        try clear q7
                        try clear hx7
                        try clear c8
                        try clear c9
                        try clear c9b0
                        try clear c9b1
                        try clear c10
                        try clear c10b0
                        try clear c10b1
                        try clear c11
                        try clear c11b0
                        try clear c11b1
                        try clear c13
                        try clear c13b0
                        try clear c13b1
                        try clear c14
                        try clear c14b0
                        try clear c14b1
                        try clear p15
                        try clear q15
                        try clear hx15
                        try clear qi15
                        try clear c16
                        try clear c16b0
                        try clear c16b1
                        try clear c18
                        try clear c19
                        try clear c19b0
                        try clear c19b1
                        try clear c22
                        try clear c22b0
                        try clear c23
                        try clear c23b0
                        try clear p24
                        try clear q24
                        try clear hx24
                        try clear c25
                        try clear c25b0
                        try clear c25b1
                        try clear c26
                        try clear c26b0
                        try clear c26b1
                        try clear c27
                        try clear c27b0
                        try clear c27b1
                        try clear c30
                        try clear c30b0
                        try clear c32
                        try clear c32b0
                        try clear c32b1
                        try clear c33
                        try clear c33b0
                        try clear c33b1
                        try clear c35
                        try clear c35b0
                        try clear c35b1
                        try clear c37
                        try clear c37b0
                        try clear c38
                        try clear c38b0
                        try clear p39
                        try clear q39
                        try clear hx39
                        try clear c41
                        try clear c43
                        try clear c43b0
                        try clear c43b1
                        try clear c44
                        try clear c44b0
                        try clear c44b1
                        try clear hcz29_0
                        try clear hcz29_1
                        try clear hcz29_2
                        try clear hcz45_0
                        try clear hcz45_1
                        try clear hcz45_2
                        try clear hfz29_0
                        try clear hfz29_1
                        try clear hfz29_2
                        try clear hfz45_0
                        try clear hfz45_1
                        try clear hfz45_2
                        try clear p1
                        try clear p15
                        try clear p2
                        try clear p24
                        try clear p3
                        try clear p39
                        try clear p6
                        try clear p7
                        try clear q1
                        try clear q15
                        try clear q2
                        try clear q24
                        try clear q3
                        try clear q39
                        try clear q7
                        obtain ⟨kq, x10_39, x398002_39, rfl, HA, HJ39, HO_4, BK397, HB⟩ := hcut
                        cases kq with
                        | zero => exact absurd HA.out (by simp [caduceusref04_Parse.j8])
                        | succ kj39 =>
                         have H := HA.out
                         clear HA
                         simp only [caduceusref04_Parse.j8] at H
                         have H' := Aside0.mk H
                         clear H
                         go_wp2
                         go_loopg [11] kj39 (fun kq v11 w' => ∃ (x11_9 : Int) (x398001_9 : Int), v11 = .int .i64 x11_9 ∧ Aside0 (caduceusref04_Parse.l2 kq a0 x4_1 x6_1 x10_39 x11_9 (x7_16.extract 0 (x9_19 : Int).toNat) x398001_9 x398002_39 = some (r1, r2)) ∧ Aside0 (kq ≤ kj39) ∧ Aside0 (Kd.R k72 72 w' w.heap.size (fun k_ => k_ ≠ gb397) u4 x4_1) ∧ Aside0 (w'.heap[gb397]? = some (.cells #[.string (x7_16.extract 0 (x9_19 : Int).toNat), .int .i64 x398001_9, .bool x398002_39] 72 (0, 0))) ∧ Aside0 (Below w.heap.size w w'))
                         case atStart => exact ⟨(1), (0), (endS), H', ⟨Nat.le_refl _⟩, ⟨by (with_reducible repeat (first | apply Kd.R_alloc | apply Kd.R_drewN | apply Kd.R_drew)); exact HO_4.out⟩, ⟨by (with_reducible repeat (first | refine blk_drewN ?_ _ | refine blk_drew ?_ | refine blk_alloc ?_ _)); exact BK397.out⟩, ⟨bwA⟩⟩
                         case round =>
                          clear H'
                          try clear c1
                          try clear p1
                          try clear q1
                          try clear hx1
                          try clear qi1
                          try clear c2
                          try clear c2b0
                          try clear c2b1
                          try clear p2
                          try clear q2
                          try clear hx2
                          try clear c3
                          try clear c3b0
                          try clear p3
                          try clear q3
                          try clear hx3
                          try clear c4
                          try clear c5
                          try clear c5b0
                          try clear c6
                          try clear c6b0
                          try clear p6
                          try clear p7
                          try clear q7
                          try clear hx7
                          try clear c8
                          try clear c9
                          try clear c9b0
                          try clear c9b1
                          try clear c10
                          try clear c10b0
                          try clear c10b1
                          try clear c11
                          try clear c11b0
                          try clear c11b1
                          try clear c13
                          try clear c13b0
                          try clear c13b1
                          try clear c14
                          try clear c14b0
                          try clear c14b1
                          try clear p15
                          try clear q15
                          try clear hx15
                          try clear qi15
                          try clear c16
                          try clear c16b0
                          try clear c16b1
                          try clear c18
                          try clear c19
                          try clear c19b0
                          try clear c19b1
                          try clear c22
                          try clear c22b0
                          try clear c23
                          try clear c23b0
                          try clear p24
                          try clear q24
                          try clear hx24
                          try clear c25
                          try clear c25b0
                          try clear c25b1
                          try clear c26
                          try clear c26b0
                          try clear c26b1
                          try clear c27
                          try clear c27b0
                          try clear c27b1
                          try clear c30
                          try clear c30b0
                          try clear c32
                          try clear c32b0
                          try clear c32b1
                          try clear c33
                          try clear c33b0
                          try clear c33b1
                          try clear c35
                          try clear c35b0
                          try clear c35b1
                          try clear c37
                          try clear c37b0
                          try clear c38
                          try clear c38b0
                          try clear p39
                          try clear q39
                          try clear hx39
                          try clear c41
                          try clear c43
                          try clear c43b0
                          try clear c43b1
                          try clear c44
                          try clear c44b0
                          try clear c44b1
                          try clear hcz29_0
                          try clear hcz29_1
                          try clear hcz29_2
                          try clear hcz45_0
                          try clear hcz45_1
                          try clear hcz45_2
                          try clear hfz29_0
                          try clear hfz29_1
                          try clear hfz29_2
                          try clear hfz45_0
                          try clear hfz45_1
                          try clear hfz45_2
                          try clear p1
                          try clear p15
                          try clear p2
                          try clear p24
                          try clear p3
                          try clear p39
                          try clear p6
                          try clear p7
                          try clear q1
                          try clear q15
                          try clear q2
                          try clear q24
                          try clear q3
                          try clear q39
                          try clear q7
                          obtain ⟨x11_9, x398001_9, rfl, HA, HK9, HO_4, BK397, HB⟩ := hrel
                          cases gk with
                          | zero => exact absurd HA.out (by simp [caduceusref04_Parse.l2])
                          | succ k9 =>
                           have H := HA.out
                           clear HA
                           simp only [caduceusref04_Parse.l2] at H
                           by_cases c46 : x11_9 ≤ 4
                           ·rw [if_pos c46] at H
                            have c46b0 : decide (x11_9 ≤ 4) = true := decide_eq_true c46
                            clear c46
                            replace H := Option.bind_eq_some_iff.mp H
                            obtain ⟨t398, A470, H⟩ := H
                            replace H : (if t398.toList = x10_39.toList then (caduceusref04_Parse.l2 k9 a0 x4_1 x6_1 x10_39 (wrap64 (x11_9 + 1)) (x7_16.extract 0 (x9_19 : Int).toNat) x11_9 x398002_39) else (caduceusref04_Parse.l2 k9 a0 x4_1 x6_1 x10_39 (wrap64 (x11_9 + 1)) (x7_16.extract 0 (x9_19 : Int).toNat) x398001_9 x398002_39)) = some (r1, r2) := H
                            have A47 := Aside0.mk A470
                            clear A470
                            by_cases c48 : t398.toList = x10_39.toList
                            ·rw [if_pos c48] at H
                             have c48b0 : (t398.toList == x10_39.toList) = true := beq_iff_eq.mpr c48
                             have c48b1 : (t398.toList != x10_39.toList) = false := bne_eq_false_iff_eq.mpr c48
                             clear c48
                             have H' := Aside0.mk H
                             clear H
                             go_wp2_with (first | ((with_reducible refine gate_callee (f := 59) rfl ?_); refine goesA (some 94) Tryz.func59 #[.int .i64 x11_9] ?_; (with_reducible refine (caduceusref04_word.calls x11_9 t398 _ A47.out).mono ?_); rintro e w' ⟨rfl, ⟨nd, rfl⟩⟩; refine ⟨_, rfl, ?_⟩; (try (rw [drewN_self wr]; generalize hq_ : World.drewN wr _ = wr; have n0_ : Aside0 (Kd.R k72 72 wr w.heap.size (fun k_ => k_ ≠ gb397) u4 x4_1) := ⟨by rw [← hq_]; exact (by (with_reducible repeat (first | apply Kd.R_alloc | apply Kd.R_drewN | apply Kd.R_drew)); exact HO_4.out)⟩; have n1_ : Aside0 (wr.heap[gb397]? = some (.cells #[.string (x7_16.extract 0 (x9_19 : Int).toNat), .int .i64 x398001_9, .bool x398002_39] 72 (0, 0))) := ⟨by rw [← hq_]; exact blkA⟩; have n2_ : Aside0 (Below w.heap.size w wr) := ⟨by rw [← hq_]; exact (bwA)⟩; clear HO_4 BK397 HB hq_; have HO_4 := n0_; have BK397 := n1_; have HB := n2_; clear n0_ n1_ n2_)); have hcz49_0 : wr.cell? ⟨gb397, 0, none⟩ = some (.string (x7_16.extract 0 (x9_19 : Int).toNat)) := (blk_cell BK397.out 0).trans rfl; have hcz49_1 : wr.cell? ⟨gb397, 1, none⟩ = some (.int .i64 x398001_9) := (blk_cell BK397.out 1).trans rfl; have hcz49_2 : wr.cell? ⟨gb397, 2, none⟩ = some (.bool x398002_39) := (blk_cell BK397.out 2).trans rfl; have hfz49_0 := blk_frozen BK397.out 0; have hfz49_1 := blk_frozen BK397.out 1; have hfz49_2 := blk_frozen BK397.out 2))
                             go_roundg k9
                             case measure => have := HK1.out; have := HJ3.out; have := HJ11.out; have := HJ16.out; have := HJ19.out; have := HJ27.out; have := HJ33.out; have := HJ39.out; have := HK9.out; omega
                             case rel => exact ⟨(wrap64 (x11_9 + 1)), (x11_9), (endS), H', ⟨by have := HK1.out; have := HJ3.out; have := HJ11.out; have := HJ16.out; have := HJ19.out; have := HJ27.out; have := HJ33.out; have := HJ39.out; have := HK9.out; omega⟩, ⟨by (with_reducible repeat (first | apply Kd.R_alloc | apply Kd.R_drewN | apply Kd.R_drew)); exact Kd.R_mono (Kd.R_far (p := ⟨gb397, 1, none⟩) (Kd.R_mono HO_4.out (fun k_ hk => (⟨hk, hk⟩ : _ ∧ k_ ≠ gb397))) (fun _ hk => hk.2) (.int .i64 x11_9)) (fun _ hk => hk.1)⟩, ⟨by (with_reducible repeat (first | refine blk_drewN ?_ _ | refine blk_drew ?_ | refine blk_alloc ?_ _)); refine blk_put (cs := #[.string (x7_16.extract 0 (x9_19 : Int).toNat), .int .i64 x398001_9, .bool x398002_39]) ?_ 1 _ rfl; (with_reducible repeat (first | refine blk_drewN ?_ _ | refine blk_drew ?_ | refine blk_alloc ?_ _)); exact BK397.out⟩, ⟨bwA⟩⟩
                            ·rw [if_neg c48] at H
                             have c48b0 : (t398.toList == x10_39.toList) = false := beq_eq_false_iff_ne.mpr c48
                             have c48b1 : (t398.toList != x10_39.toList) = true := bne_iff_ne.mpr c48
                             have H' := Aside0.mk H
                             clear H
                             go_wp2_with (first | ((with_reducible refine gate_callee (f := 59) rfl ?_); refine goesA (some 94) Tryz.func59 #[.int .i64 x11_9] ?_; (with_reducible refine (caduceusref04_word.calls x11_9 t398 _ A47.out).mono ?_); rintro e w' ⟨rfl, ⟨nd, rfl⟩⟩; refine ⟨_, rfl, ?_⟩))
                             go_roundg k9
                             case measure => have := HK1.out; have := HJ3.out; have := HJ11.out; have := HJ16.out; have := HJ19.out; have := HJ27.out; have := HJ33.out; have := HJ39.out; have := HK9.out; omega
                             case rel => exact ⟨(wrap64 (x11_9 + 1)), (x398001_9), (endS), H', ⟨by have := HK1.out; have := HJ3.out; have := HJ11.out; have := HJ16.out; have := HJ19.out; have := HJ27.out; have := HJ33.out; have := HJ39.out; have := HK9.out; omega⟩, ⟨by (with_reducible repeat (first | apply Kd.R_alloc | apply Kd.R_drewN | apply Kd.R_drew)); exact HO_4.out⟩, ⟨by (with_reducible repeat (first | refine blk_drewN ?_ _ | refine blk_drew ?_ | refine blk_alloc ?_ _)); exact BK397.out⟩, ⟨bwA⟩⟩
                           ·rw [if_neg c46] at H
                            have c46b0 : decide (x11_9 ≤ 4) = false := decide_eq_false c46
                            clear c46
                            by_cases c50 : x4_1.length < 4398046511104
                            ·rw [if_pos c50] at H
                             have LMc50 := Aside0.mk c50
                             clear c50
                             obtain ⟨y399, hy399⟩ : ∃ y_ : List (S72), y_ = (x4_1 ++ [(⟨(x7_16.extract 0 (x9_19 : Int).toNat), x398001_9, x398002_39⟩ : S72)]) := ⟨_, rfl⟩
                             replace H : (caduceusref04_Parse.l0 k9 a0 y399 (wrap64 (x6_1 + 1)) (wrap64 (x6_1 + 1))) = some (r1, r2) := by first | (rw [hy399]; with_reducible exact H) | (have H2_ := (Option.bind_some _ _).symm.trans H; rw [hy399]; with_reducible exact H2_) | (have H2_ := (Option.bind_some _ _).symm.trans H; with_reducible exact H2_) | with_reducible exact H | (rw [hy399]; exact H) | exact H
                             have Ny399 := Aside0.mk hy399
                             clear hy399
                             have H' := Aside0.mk H
                             clear H
                             have hcz51_0 : wr.cell? ⟨gb397, 0, none⟩ = some (.string (x7_16.extract 0 (x9_19 : Int).toNat)) := (blk_cell BK397.out 0).trans rfl
                             have hcz51_1 : wr.cell? ⟨gb397, 1, none⟩ = some (.int .i64 x398001_9) := (blk_cell BK397.out 1).trans rfl
                             have hcz51_2 : wr.cell? ⟨gb397, 2, none⟩ = some (.bool x398002_39) := (blk_cell BK397.out 2).trans rfl
                             have hfz51_0 := blk_frozen BK397.out 0
                             have hfz51_1 := blk_frozen BK397.out 1
                             have hfz51_2 := blk_frozen BK397.out 2
                             go_wp2_with (first | ((with_reducible refine gate_builtin (b := .append) (xs := #[.tmp 99, .tmp 101]) rfl ?_); (try (refine gate_guard (by rfl) ?_; dsimp only)); at_builtin; refine Kd.R_append k72 (w0 := w) w.heap.size rfl (.tmp 99) (.tmp 101) 28 72 (.agg #[(.string ⟨#[]⟩), (.int .i64 0), (.bool false)]) 32 rfl Tryz.underlying28 info72 rfl (by decide) (by omega) u4 x4_1 (⟨(x7_16.extract 0 (x9_19 : Int).toNat), x398001_9, x398002_39⟩ : S72) [.string (x7_16.extract 0 (x9_19 : Int).toNat), .int .i64 x398001_9, .bool x398002_39] (fun k_ => k_ ≠ gb397) (fun _ => False) rfl rfl ?aP (fun _ hk => hk.elim) ?aF ?aO ?aB ?aS ?aL ?_; (case aP => exact k72_mkM _ _ _ (⟨(x7_16.extract 0 (x9_19 : Int).toNat), x398001_9, x398002_39⟩ : S72)); (case aB => exact (bwA)); (case aF => exact (fun k_ hk => Kd.freshB (g := gb397) (o := .cells #[.string (x7_16.extract 0 (x9_19 : Int).toNat), .int .i64 x398001_9, .bool x398002_39] 72 (0, 0)) blkA k_ hk)); (case aO => exact (by (with_reducible repeat (first | apply Kd.R_alloc | apply Kd.R_drewN | apply Kd.R_drew)); exact HO_4.out)); (case aS => exact (below_size (bwA))); (case aL => have := LMc50.out; omega); intro v400 w52 ho hb hg hat; rw [← Ny399.out] at ho; have n0_ := Aside0.mk (blk_grown (g := gb397) (o := .cells #[.string (x7_16.extract 0 (x9_19 : Int).toNat), .int .i64 x398001_9, .bool x398002_39] 72 (0, 0)) blkA hg (Kd.R_away HO_4.out (fun _ hk => hk))); have n1_ := Aside0.mk (hb); have n2_ := Aside0.mk (ho); clear BK397; clear HB; clear HO_4; have BK397 := n0_; have HB := n1_; have HO401 := n2_; clear n0_ n1_ n2_; clear ho hb hg hat))
                             go_roundg k9
                             case measure => have := HK1.out; have := HJ3.out; have := HJ11.out; have := HJ16.out; have := HJ19.out; have := HJ27.out; have := HJ33.out; have := HJ39.out; have := HK9.out; omega
                             case rel => exact ⟨(y399), (wrap64 (x6_1 + 1)), (wrap64 (x6_1 + 1)), (endS), (endS), H', ⟨by have := HK1.out; have := HJ3.out; have := HJ11.out; have := HJ16.out; have := HJ19.out; have := HJ27.out; have := HJ33.out; have := HJ39.out; have := HK9.out; omega⟩, ⟨by (with_reducible repeat (first | apply Kd.R_alloc | apply Kd.R_drewN | apply Kd.R_drew)); exact Kd.R_mono HO401.out (fun _ hk => trivial)⟩, ⟨bwA⟩⟩
                            ·rw [if_neg c50] at H
                             exact absurd H (by simp)
                  ·rw [if_neg c27] at H
                   exact absurd H (by simp)
                 ·rw [if_neg c26] at H
                  exact absurd H (by simp)
          ·rw [if_neg c11] at H
           exact absurd H (by simp)
         ·rw [if_neg c10] at H
          exact absurd H (by simp)
        ·rw [if_neg c9] at H
         exact absurd H (by simp)
    ·rw [if_neg c3] at H
     have c3b0 : decide (x6_1 ≤ (a0.size : Int)) = false := decide_eq_false c3
     clear c3
     by_cases c53 : a0.toList = ([] : List UInt8)
     ·rw [if_pos c53] at H
      have c53b0 : (a0.toList == ([] : List UInt8)) = true := beq_iff_eq.mpr c53
      have c53b1 : (a0.toList != ([] : List UInt8)) = false := bne_eq_false_iff_eq.mpr c53
      clear c53
      simp only [Option.some.injEq, Prod.mk.injEq] at H
      obtain ⟨rfl, rfl⟩ := H
      go_wp2
      go_ret2
      exact ⟨_, endA, by first | exact Kd.R_nil _ _ _ _ _ | exact Kd.N_nil _ _ _ _ _ | exact Kd.V_nil _ _ _ _ _ | exact Kd.Q_nil _ _ _ _ _ | exact Kd.S_nil _ _ _ _ _, bwA⟩
     ·rw [if_neg c53] at H
      have c53b0 : (a0.toList == ([] : List UInt8)) = false := beq_eq_false_iff_ne.mpr c53
      have c53b1 : (a0.toList != ([] : List UInt8)) = true := bne_iff_ne.mpr c53
      replace H := Option.bind_eq_some_iff.mp H
      obtain ⟨t396, A540, H⟩ := H
      replace H : (if t396.toList = a0.toList then (some (x4_1, 0)) else (some (([] : List (S72)), 3))) = some (r1, r2) := H
      have A54 := Aside0.mk A540
      clear A540
      by_cases c55 : t396.toList = a0.toList
      ·rw [if_pos c55] at H
       have c55b0 : (t396.toList == a0.toList) = true := beq_iff_eq.mpr c55
       have c55b1 : (t396.toList != a0.toList) = false := bne_eq_false_iff_eq.mpr c55
       clear c55
       simp only [Option.some.injEq, Prod.mk.injEq] at H
       obtain ⟨rfl, rfl⟩ := H
       obtain ⟨Ao56, co56, eo56⟩ := Kd.R_slice HO_4.out
       subst eo56
       go_wp2_with (first | (go_at_call 27; (with_reducible refine (caduceusref04_Show.calls k1 _ _ x4_1 t396 _ ?side1 ?side2 A54.out).mono ?_); (case side1 => repeat (first | exact (Kd.R_reads' HO_4.out).2.2 | (with_reducible refine Kd.C_alloc ?_ _) | (with_reducible refine Kd.C_drewN ?_ _) | (with_reducible refine Kd.C_drew ?_))); (case side2 => exact (Kd.R_reads' HO_4.out).2.1); rintro e w57 ⟨rfl, hb⟩; have n0_ := Aside0.mk (Kd.R_below (by (with_reducible repeat (first | apply Kd.R_alloc | apply Kd.R_drewN | apply Kd.R_drew)); exact HO_4.out) hb); have n1_ := Aside0.mk (below_step (bwA) hb); clear HO_4; clear HB; have HO_4 := n0_; have HB := n1_; clear n0_ n1_; (try clear hb); (try clear hb2); (try clear hk); (try clear hi)))
       go_ret2
       exact ⟨_, endA, by (with_reducible repeat (first | apply Kd.R_alloc | apply Kd.R_drewN | apply Kd.R_drew)); exact HO_4.out, bwA⟩
      ·rw [if_neg c55] at H
       have c55b0 : (t396.toList == a0.toList) = false := beq_eq_false_iff_ne.mpr c55
       have c55b1 : (t396.toList != a0.toList) = true := bne_iff_ne.mpr c55
       simp only [Option.some.injEq, Prod.mk.injEq] at H
       obtain ⟨rfl, rfl⟩ := H
       obtain ⟨Ao58, co58, eo58⟩ := Kd.R_slice HO_4.out
       subst eo58
       go_wp2_with (first | (go_at_call 27; (with_reducible refine (caduceusref04_Show.calls k1 _ _ x4_1 t396 _ ?side1 ?side2 A54.out).mono ?_); (case side1 => repeat (first | exact (Kd.R_reads' HO_4.out).2.2 | (with_reducible refine Kd.C_alloc ?_ _) | (with_reducible refine Kd.C_drewN ?_ _) | (with_reducible refine Kd.C_drew ?_))); (case side2 => exact (Kd.R_reads' HO_4.out).2.1); rintro e w59 ⟨rfl, hb⟩; have n0_ := Aside0.mk (Kd.R_below (by (with_reducible repeat (first | apply Kd.R_alloc | apply Kd.R_drewN | apply Kd.R_drew)); exact HO_4.out) hb); have n1_ := Aside0.mk (below_step (bwA) hb); clear HO_4; clear HB; have HO_4 := n0_; have HB := n1_; clear n0_ n1_; (try clear hb); (try clear hb2); (try clear hk); (try clear hi)))
       go_ret2
       exact ⟨_, endA, by first | exact Kd.R_nil _ _ _ _ _ | exact Kd.N_nil _ _ _ _ _ | exact Kd.V_nil _ _ _ _ _ | exact Kd.Q_nil _ _ _ _ _ | exact Kd.S_nil _ _ _ _ _, bwA⟩

end Go.Proofs.YtnbbajiabbmdmaaGreatDoor.A
