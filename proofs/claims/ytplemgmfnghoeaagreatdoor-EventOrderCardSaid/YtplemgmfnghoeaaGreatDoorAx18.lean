-- By drv.py, the session's own driver round the kit's print: the machine's side of the laws, function by function. Not trusted: Lean checks it.
import Derived.Test.YtplemgmfnghoeaaGreatDoorAx0
import Derived.Test.YtplemgmfnghoeaaGreatDoorAx15
namespace Go.Proofs.YtplemgmfnghoeaaGreatDoor.A
open Go.RowKit Go.Proofs.YtplemgmfnghoeaaGreatDoorW.PrintWords Go.Proofs.YtplemgmfnghoeaaGreatDoorW.PrintLast Go.Proofs.YtplemgmfnghoeaaGreatDoorW.PrintMore
attribute [local go_sem] max2_int min2_int max_two min_two max_three min_three max_four min_four   -- for this text's walks alone
set_option linter.unusedVariables false
set_option linter.unusedSimpArgs false

/-! ### value_bytes: function 120 -/
mutual
def value_bytes.l0 : Nat → ByteArray → List Int → Option (Int × Int × ByteArray × ByteArray × Int)
 | 0, _, _ => none
 | k + 1, x0, x5 => if x0.toList = ([] : List UInt8) then (value_bytes.j1 k x0 x5 false) else (if 0 < (x0.size : Int) then (value_bytes.j1 k x0 x5 ((bt x0 0) != 39)) else (none))
def value_bytes.j1 : Nat → ByteArray → List Int → Bool → Option (Int × Int × ByteArray × ByteArray × Int)
 | 0, _, _, _ => none
 | k + 1, x0, x5, x14 => if x14 = true then (if (x0.size : Int) < 2 then (value_bytes.j2 k x0 x5 true) else (if 0 < (x0.size : Int) then ((value_digit.f (bt x0 0)).bind fun t217 => (if t217 < 0 then (value_bytes.j2 k x0 x5 true) else (if 1 < (x0.size : Int) then ((value_digit.f (bt x0 1)).bind fun t218 => (value_bytes.j2 k x0 x5 (decide (t218 < 0)))) else (none)))) else (none))) else (if x0.toList = ([] : List UInt8) then (some (0, 0, (⟨#[]⟩ : ByteArray), (⟨#[]⟩ : ByteArray), 3)) else (if (x5.length : Int) > 200 then (some (0, 0, (⟨#[]⟩ : ByteArray), (⟨#[]⟩ : ByteArray), 2)) else (if 1 ≤ (x0.size : Int) then (some (4, 0, strOfNums x5, x0.extract 1 x0.size, 0)) else (none))))
def value_bytes.j2 : Nat → ByteArray → List Int → Bool → Option (Int × Int × ByteArray × ByteArray × Int)
 | 0, _, _, _ => none
 | k + 1, x0, x5, x31 => if x31 = true then (some (0, 0, (⟨#[]⟩ : ByteArray), (⟨#[]⟩ : ByteArray), 3)) else (if 0 < (x0.size : Int) then ((value_digit.f (bt x0 0)).bind fun t219 => (if 1 < (x0.size : Int) then ((value_digit.f (bt x0 1)).bind fun t220 => (if x5.length < 140737488355328 then (if 2 ≤ (x0.size : Int) then (value_bytes.l0 k (x0.extract 2 x0.size) (x5 ++ [(Go.bits .or .i64 (wrap64 (t219 * 16)) t220) % 256])) else (none)) else (none))) else (none))) else (none))
end
def value_bytes.f (k : Nat) (a0 : ByteArray) : Option (Int × Int × ByteArray × ByteArray × Int) := if 2 ≤ (a0.size : Int) then (value_bytes.l0 k (a0.extract 2 a0.size) ([] : List Int)) else (none)
theorem value_bytes.mono_l : ∀ k, (∀ y0 y1, LeO (value_bytes.l0 k y0 y1) (value_bytes.l0 (k + 1) y0 y1)) ∧ (∀ y0 y1 y2, LeO (value_bytes.j1 k y0 y1 y2) (value_bytes.j1 (k + 1) y0 y1 y2)) ∧ (∀ y0 y1 y2, LeO (value_bytes.j2 k y0 y1 y2) (value_bytes.j2 (k + 1) y0 y1 y2))
 | 0 => ⟨fun _ _ r h => by simp [value_bytes.l0] at h, fun _ _ _ r h => by simp [value_bytes.j1] at h, fun _ _ _ r h => by simp [value_bytes.j2] at h⟩
 | k + 1 => by
  obtain ⟨ih0, ih1, ih2⟩ := value_bytes.mono_l k
  refine ⟨?_, ?_, ?_⟩
  all_goals intros
  all_goals first | unfold value_bytes.l0 | unfold value_bytes.j1 | unfold value_bytes.j2
  all_goals repeat' first
   | (with_reducible exact ih0 _ _)
   | (with_reducible exact ih1 _ _ _)
   | (with_reducible exact ih2 _ _ _)
   | (with_reducible exact LeO.refl _)
   | (with_reducible exact LeO.none _)
   | (with_reducible refine LeO.ite ?_ ?_)
   | (with_reducible refine LeO.bind ?_ (fun _ => ?_))
   | exact ih0 _ _
   | exact ih1 _ _ _
   | exact ih2 _ _ _
   | exact LeO.none _
   | refine LeO.ite ?_ ?_
   | refine LeO.bind ?_ (fun _ => ?_)
theorem value_bytes.mono : ∀ a0 k, LeO (value_bytes.f k a0) (value_bytes.f (k + 1) a0) := by
 intro a0 k
 obtain ⟨ih0, ih1, ih2⟩ := value_bytes.mono_l k
 unfold value_bytes.f
 repeat' first
   | (with_reducible exact ih0 _ _)
   | (with_reducible exact ih1 _ _ _)
   | (with_reducible exact ih2 _ _ _)
   | (with_reducible exact LeO.refl _)
   | (with_reducible exact LeO.none _)
   | (with_reducible refine LeO.ite ?_ ?_)
   | (with_reducible refine LeO.bind ?_ (fun _ => ?_))
   | exact ih0 _ _
   | exact ih1 _ _ _
   | exact ih2 _ _ _
   | exact LeO.none _
   | refine LeO.ite ?_ ?_
   | refine LeO.bind ?_ (fun _ => ?_)
def value_bytes.T7 : Bool × List (List Nat × List Nat) := (true, [([], []), ([], []), ([1], [1]), ([2], [2]), ([3], [3]), ([], []), ([5], [5]), ([6, 3], [6]), ([4, 7], [4, 7]), ([8], [8]), ([9], [9]), ([0, 10, 7], [0, 10]), ([11, 11, 0, 1, 2, 3, 4, 5, 6, 7, 8, 9, 10, 11], [0, 11])])
def value_bytes.B7 : List Nat := [0, 0, 2, 6, 14, 0, 32, 110, 254, 510, 1022, 2047, 4095]
theorem value_bytes.tab7 : rtab .any (opsOf Tryz.f120 7) = value_bytes.T7 := by kernel_rfl
theorem value_bytes.bits7 : waitsOk value_bytes.T7.2 value_bytes.B7 = true := by kernel_rfl
def value_bytes.T12 : Bool × List (List Nat × List Nat) := (true, [([], []), ([0], [0]), ([1], [1]), ([], []), ([3], [3]), ([2, 0, 1, 2], [2]), ([4, 5, 0, 1, 2, 3, 4, 5], [4]), ([6, 0, 1, 2, 3, 4, 5, 6], [])])
def value_bytes.B12 : List Nat := [0, 1, 3, 0, 8, 7, 63, 127]
theorem value_bytes.tab12 : rtab .any (opsOf Tryz.f120 12) = value_bytes.T12 := by kernel_rfl
theorem value_bytes.bits12 : waitsOk value_bytes.T12.2 value_bytes.B12 = true := by kernel_rfl
set_option maxHeartbeats 8000000 in
set_option maxRecDepth 100000 in
theorem value_bytes.calls (k : Nat) (a0 : ByteArray) (r1 : Int) (r2 : Int) (r3 : ByteArray) (r4 : ByteArray) (r5 : Int) (w : World) (h : value_bytes.f k a0 = some (r1, r2, r3, r4, r5)) :
  Calls Tryz.prog 120 #[.string a0] w fun e w' => e = .returned (.tuple #[.agg #[.int .i64 r1, .int .i64 r2, .string r3], .string r4, .int .i64 r5]) ∧ Below w.heap.size w w' := by
 have hu55 := Tryz.underlying55
 have HB := Aside0.mk (Below.refl w.heap.size w)
 have H : (if 2 ≤ (a0.size : Int) then (value_bytes.l0 k (a0.extract 2 a0.size) ([] : List Int)) else (none)) = some (r1, r2, r3, r4, r5) := h
 clear h
 by_cases c2 : 2 ≤ (a0.size : Int)
 ·rw [if_pos c2] at H
  have c2b0 := eq_true c2
  have c2b1 : decide (2 ≤ (a0.size : Int)) = true := decide_eq_true c2
  clear c2
  have H' := Aside0.mk H
  clear H
  go_enter Tryz.func120, Tryz.ntmps120
  go_wp2_with (first | ((with_reducible refine gate_dst (N := 2) rfl ?_); refine box_event ?hg (N := 2) ?hd (cs := #[.int .i64 0, .int .i64 0, .string (⟨#[]⟩ : ByteArray)]) (t := 55) ?hr ?_; (case hd => rfl); (case hg => rfl); (case hr => first | (go_simp; done) | (go_simp; rfl)); intro gb216 hg w3 hbox hb; have n0_ := Aside0.mk (below_step (bwA) hb); have n1_ := Aside0.mk (hbox); have n2_ := Aside0.mk ((by rw [hg]; exact (below_size (bwA)) : w.heap.size ≤ gb216)); have n3_ := Aside0.mk ((by rw [hg]; exact (below_size (bwA)) : w.heap.size ≤ gb216)); clear HB; have HB := n0_; have BK216 := n1_; have GW216 := n2_; have GE216 := n3_; clear n0_ n1_ n2_ n3_; clear hb hbox hg))
  go_loopg [0, 5] k (fun kq v0 v5 w' => ∃ (x0_1 : ByteArray) (x5_1 : List Int) (x217000_1 : Int) (x217001_1 : Int) (x217002_1 : ByteArray), v0 = .string x0_1 ∧ Aside0 (value_bytes.l0 kq x0_1 x5_1 = some (r1, r2, r3, r4, r5)) ∧ Aside0 (kq ≤ k) ∧ Aside0 (Kd.R (Kd.int .u8) 5 w' w.heap.size (fun _ => True) v5 x5_1) ∧ Aside0 (w'.heap[gb216]? = some (.cells #[.int .i64 x217000_1, .int .i64 x217001_1, .string x217002_1] 55 (0, 0))) ∧ Aside0 (Below w.heap.size w w'))
  case atStart => exact ⟨(a0.extract 2 a0.size), (([] : List Int)), (0), (0), ((⟨#[]⟩ : ByteArray)), (endS), H', ⟨Nat.le_refl _⟩, ⟨by first | exact Kd.R_nil _ _ _ _ _ | exact Kd.N_nil _ _ _ _ _ | exact Kd.V_nil _ _ _ _ _ | exact Kd.Q_nil _ _ _ _ _ | exact Kd.S_nil _ _ _ _ _⟩, ⟨by (with_reducible repeat (first | refine blk_drewN ?_ _ | refine blk_drew ?_ | refine blk_alloc ?_ _)); exact BK216.out⟩, ⟨bwA⟩⟩
  case round =>
   clear H'
   try clear c1
   try clear c2
   try clear c2b0
   try clear c2b1
   try clear p2
   obtain ⟨x0_1, x5_1, x217000_1, x217001_1, x217002_1, rfl, HA, HK1, HO_5, BK216, HB⟩ := hrel
   cases gk with
   | zero => exact absurd HA.out (by simp [value_bytes.l0])
   | succ k1 =>
    have H := HA.out
    clear HA
    simp only [value_bytes.l0] at H
    have HC4 := Aside0.mk H
    clear H
    go_upto_region 3 with (fail)
    go_cut [14] (fun v14 wc => ∃ (kq : Nat) (x14_3 : Bool), v14 = .bool x14_3 ∧ Aside0 (value_bytes.j1 kq x0_1 x5_1 x14_3 = some (r1, r2, r3, r4, r5)) ∧ Aside0 (kq ≤ k1) ∧ Aside0 (Kd.R (Kd.int .u8) 5 wc w.heap.size (fun _ => True) u5 x5_1) ∧ Aside0 (wc.heap[gb216]? = some (.cells #[.int .i64 x217000_1, .int .i64 x217001_1, .string x217002_1] 55 (0, 0))) ∧ Aside0 (Below w.heap.size w wc))
    case first =>
     have H := HC4.out
     clear HC4
     by_cases c5 : x0_1.toList = ([] : List UInt8)
     ·rw [if_pos c5] at H
      have c5b0 : (x0_1.toList == ([] : List UInt8)) = true := beq_iff_eq.mpr c5
      have c5b1 : (x0_1.toList != ([] : List UInt8)) = false := bne_eq_false_iff_eq.mpr c5
      clear c5
      (first | rw [c5b0] | (simp only [i64_w, i32_w]; rw [c5b0]) | skip)
      have H' := Aside0.mk H
      clear H
      go_wp2
      go_meet
      case rel => exact ⟨_, (false), (endS), H', ⟨by have := HK1.out; first | omega | exact Nat.le_refl _⟩, ⟨by (with_reducible repeat (first | apply Kd.R_alloc | apply Kd.R_drewN | apply Kd.R_drew)); exact HO_5.out⟩, ⟨by (with_reducible repeat (first | refine blk_drewN ?_ _ | refine blk_drew ?_ | refine blk_alloc ?_ _)); exact BK216.out⟩, ⟨bwA⟩⟩
     ·rw [if_neg c5] at H
      have c5b0 : (x0_1.toList == ([] : List UInt8)) = false := beq_eq_false_iff_ne.mpr c5
      have c5b1 : (x0_1.toList != ([] : List UInt8)) = true := bne_iff_ne.mpr c5
      (first | rw [c5b0] | (simp only [i64_w, i32_w]; rw [c5b0]) | skip)
      by_cases c6 : 0 < (x0_1.size : Int)
      ·rw [if_pos c6] at H
       have c6b0 : decide (0 < (x0_1.size : Int)) = true := decide_eq_true c6
       have c6b1 : decide (0 < x0_1.size) = true := decide_eq_true (by omega)
       clear c6
       have H' := Aside0.mk H
       clear H
       have p7 : 0 ≤ (0 : Int) := (by omega)
       have q7 : 0 < x0_1.size := (by have : (0 : Int) < (x0_1.size : Int) := odA; omega)
       have hx7 : ∀ h : 0 < x0_1.size, ((x0_1[0]'h).toNat : Int) = bt x0_1 0 := bt_at x0_1 0
       clear p7
       have qi7 : (0 < (x0_1.size : Int)) = True := eq_true (odA)
       replace q7 := eq_true q7
       go_wp2
       go_meet
       case rel => exact ⟨_, (((bt x0_1 0) != 39)), (endS), H', ⟨by have := HK1.out; first | omega | exact Nat.le_refl _⟩, ⟨by (with_reducible repeat (first | apply Kd.R_alloc | apply Kd.R_drewN | apply Kd.R_drew)); exact HO_5.out⟩, ⟨by (with_reducible repeat (first | refine blk_drewN ?_ _ | refine blk_drew ?_ | refine blk_alloc ?_ _)); exact BK216.out⟩, ⟨bwA⟩⟩
      ·rw [if_neg c6] at H
       exact absurd H (by simp)
    case rest =>
     clear HC4
     try clear c1
     try clear c2
     try clear c2b0
     try clear c2b1
     try clear p2
     try clear c5
     try clear c5b0
     try clear c5b1
     try clear c6
     try clear c6b0
     try clear c6b1
     try clear p7
     try clear q7
     try clear hx7
     try clear qi7
     try clear p2
     try clear p7
     try clear q7
     obtain ⟨kq, x14_3, rfl, HA, HJ3, HO_5, BK216, HB⟩ := hcut
     cases kq with
     | zero => exact absurd HA.out (by simp [value_bytes.j1])
     | succ kj3 =>
      have H := HA.out
      clear HA
      simp only [value_bytes.j1] at H
      by_cases c8 : x14_3 = true
      ·subst c8
       have H1 : (if (x0_1.size : Int) < 2 then (value_bytes.j2 kj3 x0_1 x5_1 true) else (if 0 < (x0_1.size : Int) then ((value_digit.f (bt x0_1 0)).bind fun t217 => (if t217 < 0 then (value_bytes.j2 kj3 x0_1 x5_1 true) else (if 1 < (x0_1.size : Int) then ((value_digit.f (bt x0_1 1)).bind fun t218 => (value_bytes.j2 kj3 x0_1 x5_1 (decide (t218 < 0)))) else (none)))) else (none))) = some (r1, r2, r3, r4, r5) := by rw [if_pos rfl] at H; exact H
       clear H
       have H := H1
       clear H1
       have HC9 := Aside0.mk H
       clear H
       go_upto_region 5 with (fail)
       go_cut [31] (fun v31 wc => ∃ (kq : Nat) (x31_8 : Bool), v31 = .bool x31_8 ∧ Aside0 (value_bytes.j2 kq x0_1 x5_1 x31_8 = some (r1, r2, r3, r4, r5)) ∧ Aside0 (kq ≤ kj3) ∧ Aside0 (Kd.R (Kd.int .u8) 5 wc w.heap.size (fun _ => True) u5 x5_1) ∧ Aside0 (wc.heap[gb216]? = some (.cells #[.int .i64 x217000_1, .int .i64 x217001_1, .string x217002_1] 55 (0, 0))) ∧ Aside0 (Below w.heap.size w wc))
       case first =>
        have H := HC9.out
        clear HC9
        by_cases c10 : (x0_1.size : Int) < 2
        ·rw [if_pos c10] at H
         have c10b0 : decide ((x0_1.size : Int) < 2) = true := decide_eq_true c10
         have c10b1 : decide (x0_1.size < 2) = true := decide_eq_true (by omega)
         clear c10
         (first | rw [c10b0] | (simp only [i64_w, i32_w]; rw [c10b0]) | skip)
         have H' := Aside0.mk H
         clear H
         go_wp2
         go_meet
         case rel => exact ⟨_, (true), (endS), H', ⟨by have := HK1.out; have := HJ3.out; first | omega | exact Nat.le_refl _⟩, ⟨by (with_reducible repeat (first | apply Kd.R_alloc | apply Kd.R_drewN | apply Kd.R_drew)); exact HO_5.out⟩, ⟨by (with_reducible repeat (first | refine blk_drewN ?_ _ | refine blk_drew ?_ | refine blk_alloc ?_ _)); exact BK216.out⟩, ⟨bwA⟩⟩
        ·rw [if_neg c10] at H
         have c10b0 : decide ((x0_1.size : Int) < 2) = false := decide_eq_false c10
         have c10b1 : decide (x0_1.size < 2) = false := decide_eq_false (by omega)
         clear c10
         (first | rw [c10b0] | (simp only [i64_w, i32_w]; rw [c10b0]) | skip)
         by_cases c11 : 0 < (x0_1.size : Int)
         ·rw [if_pos c11] at H
          have c11b0 : decide (0 < (x0_1.size : Int)) = true := decide_eq_true c11
          have c11b1 : decide (0 < x0_1.size) = true := decide_eq_true (by omega)
          clear c11
          replace H := Option.bind_eq_some_iff.mp H
          obtain ⟨t217, A130, H⟩ := H
          replace H : (if t217 < 0 then (value_bytes.j2 kj3 x0_1 x5_1 true) else (if 1 < (x0_1.size : Int) then ((value_digit.f (bt x0_1 1)).bind fun t218 => (value_bytes.j2 kj3 x0_1 x5_1 (decide (t218 < 0)))) else (none))) = some (r1, r2, r3, r4, r5) := H
          have A13 := Aside0.mk A130
          clear A130
          by_cases c14 : t217 < 0
          ·rw [if_pos c14] at H
           have c14b0 : decide (t217 < 0) = true := decide_eq_true c14
           clear c14
           have H' := Aside0.mk H
           clear H
           have p12 : 0 ≤ (0 : Int) := (by omega)
           have q12 : 0 < x0_1.size := (by have : (0 : Int) < (x0_1.size : Int) := odA; omega)
           have hx12 : ∀ h : 0 < x0_1.size, ((x0_1[0]'h).toNat : Int) = bt x0_1 0 := bt_at x0_1 0
           clear p12
           have qi12 : (0 < (x0_1.size : Int)) = True := eq_true (odA)
           replace q12 := eq_true q12
           go_wp2_with (first | (go_at_call 148; (with_reducible refine (value_digit.calls (bt x0_1 0) t217 _ A13.out).mono ?_); rintro e w' ⟨rfl, ⟨nd, rfl⟩⟩))
           go_meet
           case rel => exact ⟨_, (true), (endS), H', ⟨by have := HK1.out; have := HJ3.out; first | omega | exact Nat.le_refl _⟩, ⟨by (with_reducible repeat (first | apply Kd.R_alloc | apply Kd.R_drewN | apply Kd.R_drew)); exact HO_5.out⟩, ⟨by (with_reducible repeat (first | refine blk_drewN ?_ _ | refine blk_drew ?_ | refine blk_alloc ?_ _)); exact BK216.out⟩, ⟨bwA⟩⟩
          ·rw [if_neg c14] at H
           have c14b0 : decide (t217 < 0) = false := decide_eq_false c14
           clear c14
           by_cases c15 : 1 < (x0_1.size : Int)
           ·rw [if_pos c15] at H
            have c15b0 : decide (1 < (x0_1.size : Int)) = true := decide_eq_true c15
            have c15b1 : decide (1 < x0_1.size) = true := decide_eq_true (by omega)
            clear c15
            replace H := Option.bind_eq_some_iff.mp H
            obtain ⟨t218, A170, H⟩ := H
            replace H : (value_bytes.j2 kj3 x0_1 x5_1 (decide (t218 < 0))) = some (r1, r2, r3, r4, r5) := H
            have A17 := Aside0.mk A170
            clear A170
            have H' := Aside0.mk H
            clear H
            have p12 : 0 ≤ (0 : Int) := (by omega)
            have q12 : 0 < x0_1.size := (by have : (0 : Int) < (x0_1.size : Int) := odA; omega)
            have hx12 : ∀ h : 0 < x0_1.size, ((x0_1[0]'h).toNat : Int) = bt x0_1 0 := bt_at x0_1 0
            clear p12
            have qi12 : (0 < (x0_1.size : Int)) = True := eq_true (odA)
            replace q12 := eq_true q12
            go_wp2_with (first | (go_at_call 148; (with_reducible refine (value_digit.calls (bt x0_1 0) t217 _ A13.out).mono ?_); rintro e w' ⟨rfl, ⟨nd, rfl⟩⟩; have p16 : 0 ≤ (1 : Int) := (by omega); have q16 : 1 < x0_1.size := (by have : (1 : Int) < (x0_1.size : Int) := odA; omega); have hx16 : ∀ h : 1 < x0_1.size, ((x0_1[1]'h).toNat : Int) = bt x0_1 1 := bt_at x0_1 1; clear p16; have qi16 : (1 < (x0_1.size : Int)) = True := eq_true (odA); replace q16 := eq_true q16) | (go_at_call 148; (with_reducible refine (value_digit.calls (bt x0_1 1) t218 _ A17.out).mono ?_); rintro e w' ⟨rfl, ⟨nd, rfl⟩⟩))
            go_meet
            case rel => exact ⟨_, (decide (t218 < 0)), (endS), H', ⟨by have := HK1.out; have := HJ3.out; first | omega | exact Nat.le_refl _⟩, ⟨by (with_reducible repeat (first | apply Kd.R_alloc | apply Kd.R_drewN | apply Kd.R_drew)); exact HO_5.out⟩, ⟨by (with_reducible repeat (first | refine blk_drewN ?_ _ | refine blk_drew ?_ | refine blk_alloc ?_ _)); exact BK216.out⟩, ⟨bwA⟩⟩
           ·rw [if_neg c15] at H
            exact absurd H (by simp)
         ·rw [if_neg c11] at H
          exact absurd H (by simp)
       case rest =>
        clear HC9
        try clear c1
        try clear p1
        try clear q1
        try clear hx1
        try clear qi1
        try clear c2
        try clear c2b0
        try clear c2b1
        try clear p2
        try clear c5
        try clear c5b0
        try clear c5b1
        try clear c6
        try clear c6b0
        try clear c6b1
        try clear p7
        try clear q7
        try clear hx7
        try clear qi7
        try clear c8
        try clear c10
        try clear c10b0
        try clear c10b1
        try clear c11
        try clear c11b0
        try clear c11b1
        try clear c12
        try clear p12
        try clear q12
        try clear hx12
        try clear qi12
        try clear c14
        try clear c14b0
        try clear c15
        try clear c15b0
        try clear c15b1
        try clear p16
        try clear q16
        try clear hx16
        try clear qi16
        try clear p12
        try clear p16
        try clear p2
        try clear p7
        try clear q12
        try clear q16
        try clear q7
        obtain ⟨kq, x31_8, rfl, HA, HJ8, HO_5, BK216, HB⟩ := hcut
        cases kq with
        | zero => exact absurd HA.out (by simp [value_bytes.j2])
        | succ kj8 =>
         have H := HA.out
         clear HA
         simp only [value_bytes.j2] at H
         by_cases c18 : x31_8 = true
         ·subst c18
          have H1 : (some (0, 0, (⟨#[]⟩ : ByteArray), (⟨#[]⟩ : ByteArray), 3)) = some (r1, r2, r3, r4, r5) := by rw [if_pos rfl] at H; exact H
          clear H
          have H := H1
          clear H1
          simp only [Option.some.injEq, Prod.mk.injEq] at H
          obtain ⟨rfl, rfl, rfl, rfl, rfl⟩ := H
          have hcz19_0 : wc.cell? ⟨gb216, 0, none⟩ = some (.int .i64 x217000_1) := (blk_cell BK216.out 0).trans rfl
          have hcz19_1 : wc.cell? ⟨gb216, 1, none⟩ = some (.int .i64 x217001_1) := (blk_cell BK216.out 1).trans rfl
          have hcz19_2 : wc.cell? ⟨gb216, 2, none⟩ = some (.string x217002_1) := (blk_cell BK216.out 2).trans rfl
          have hfz19_0 := blk_frozen BK216.out 0
          have hfz19_1 := blk_frozen BK216.out 1
          have hfz19_2 := blk_frozen BK216.out 2
          go_wp2
          refine bodyPost_ret (results_ctt rfl _ _ gb216 55 #[.int .i64 0, .int .i64 0, .string (⟨#[]⟩ : ByteArray)] (0, 0) _ rfl (by (with_reducible repeat (first | refine blk_drewN ?_ _ | refine blk_drew ?_ | refine blk_alloc ?_ _)); refine blk_put (cs := #[.int .i64 0, .int .i64 0, .string x217002_1]) ?_ 2 _ rfl; (with_reducible repeat (first | refine blk_drewN ?_ _ | refine blk_drew ?_ | refine blk_alloc ?_ _)); refine blk_put (cs := #[.int .i64 0, .int .i64 x217001_1, .string x217002_1]) ?_ 1 _ rfl; (with_reducible repeat (first | refine blk_drewN ?_ _ | refine blk_drew ?_ | refine blk_alloc ?_ _)); refine blk_put (cs := #[.int .i64 x217000_1, .int .i64 x217001_1, .string x217002_1]) ?_ 0 _ rfl; (with_reducible repeat (first | refine blk_drewN ?_ _ | refine blk_drew ?_ | refine blk_alloc ?_ _)); exact BK216.out) Tryz.underlying55 rfl (by kernel_rfl)) rfl ?_
          exact ⟨endA, bwA⟩
         ·replace c18 := Bool.eq_false_iff.mpr c18
          subst c18
          have H1 : (if 0 < (x0_1.size : Int) then ((value_digit.f (bt x0_1 0)).bind fun t219 => (if 1 < (x0_1.size : Int) then ((value_digit.f (bt x0_1 1)).bind fun t220 => (if x5_1.length < 140737488355328 then (if 2 ≤ (x0_1.size : Int) then (value_bytes.l0 kj8 (x0_1.extract 2 x0_1.size) (x5_1 ++ [(Go.bits .or .i64 (wrap64 (t219 * 16)) t220) % 256])) else (none)) else (none))) else (none))) else (none)) = some (r1, r2, r3, r4, r5) := by rw [if_neg (show ¬ (false = true) by decide)] at H; exact H
          clear H
          have H := H1
          clear H1
          by_cases c20 : 0 < (x0_1.size : Int)
          ·rw [if_pos c20] at H
           have c20b0 : decide (0 < (x0_1.size : Int)) = true := decide_eq_true c20
           have c20b1 : decide (0 < x0_1.size) = true := decide_eq_true (by omega)
           clear c20
           replace H := Option.bind_eq_some_iff.mp H
           obtain ⟨t219, A220, H⟩ := H
           replace H : (if 1 < (x0_1.size : Int) then ((value_digit.f (bt x0_1 1)).bind fun t220 => (if x5_1.length < 140737488355328 then (if 2 ≤ (x0_1.size : Int) then (value_bytes.l0 kj8 (x0_1.extract 2 x0_1.size) (x5_1 ++ [(Go.bits .or .i64 (wrap64 (t219 * 16)) t220) % 256])) else (none)) else (none))) else (none)) = some (r1, r2, r3, r4, r5) := H
           have A22 := Aside0.mk A220
           clear A220
           by_cases c23 : 1 < (x0_1.size : Int)
           ·rw [if_pos c23] at H
            have c23b0 : decide (1 < (x0_1.size : Int)) = true := decide_eq_true c23
            have c23b1 : decide (1 < x0_1.size) = true := decide_eq_true (by omega)
            clear c23
            replace H := Option.bind_eq_some_iff.mp H
            obtain ⟨t220, A250, H⟩ := H
            replace H : (if x5_1.length < 140737488355328 then (if 2 ≤ (x0_1.size : Int) then (value_bytes.l0 kj8 (x0_1.extract 2 x0_1.size) (x5_1 ++ [(Go.bits .or .i64 (wrap64 (t219 * 16)) t220) % 256])) else (none)) else (none)) = some (r1, r2, r3, r4, r5) := H
            have A25 := Aside0.mk A250
            clear A250
            by_cases c26 : x5_1.length < 140737488355328
            ·rw [if_pos c26] at H
             have LMc26 := Aside0.mk c26
             clear c26
             obtain ⟨y221, hy221⟩ : ∃ y_ : List Int, y_ = (x5_1 ++ [(Go.bits .or .i64 (wrap64 (t219 * 16)) t220) % 256]) := ⟨_, rfl⟩
             replace H : (if 2 ≤ (x0_1.size : Int) then (value_bytes.l0 kj8 (x0_1.extract 2 x0_1.size) y221) else (none)) = some (r1, r2, r3, r4, r5) := by first | (rw [hy221]; with_reducible exact H) | (have H2_ := (Option.bind_some _ _).symm.trans H; rw [hy221]; with_reducible exact H2_) | (have H2_ := (Option.bind_some _ _).symm.trans H; with_reducible exact H2_) | with_reducible exact H | (rw [hy221]; exact H) | exact H
             have Ny221 := Aside0.mk hy221
             clear hy221
             by_cases c27 : 2 ≤ (x0_1.size : Int)
             ·rw [if_pos c27] at H
              have c27b0 := eq_true c27
              have c27b1 : decide (2 ≤ (x0_1.size : Int)) = true := decide_eq_true c27
              clear c27
              have H' := Aside0.mk H
              clear H
              try go_wp2
              have n0_ := Aside0.mk (Kd.R_drew HO_5.out)
              have n1_ := Aside0.mk (blk_drew BK216.out)
              have n2_ := Aside0.mk (below_drew1 HB.out)
              clear HO_5
              clear BK216
              clear HB
              have HO_5 := n0_
              have BK216 := n1_
              have HB := n2_
              clear n0_ n1_ n2_
              have p21 : 0 ≤ (0 : Int) := (by omega)
              have q21 : 0 < x0_1.size := (by have : (0 : Int) < (x0_1.size : Int) := odA; omega)
              have hx21 : ∀ h : 0 < x0_1.size, ((x0_1[0]'h).toNat : Int) = bt x0_1 0 := bt_at x0_1 0
              clear p21
              have qi21 : (0 < (x0_1.size : Int)) = True := eq_true (odA)
              replace q21 := eq_true q21
              have p24 : 0 ≤ (1 : Int) := (by omega)
              have q24 : 1 < x0_1.size := (by have : (1 : Int) < (x0_1.size : Int) := odA; omega)
              have hx24 : ∀ h : 1 < x0_1.size, ((x0_1[1]'h).toNat : Int) = bt x0_1 1 := bt_at x0_1 1
              clear p24
              have qi24 : (1 < (x0_1.size : Int)) = True := eq_true (odA)
              replace q24 := eq_true q24
              refine start_ (n := 13) (S := fun w' => True) (ds := []) (mkB 13 0) (by kernel_rfl) rfl rfl trivial (fun hHeld => ?_); refine with_tabW value_bytes.tab7 value_bytes.bits7 (fun HT_ HW_ => ?_)
              generalize wc.drew = w28 at HO_5 BK216 HB hHeld ⊢
              refine pureA 0 (some 33) (mkB 13 1) ?_
              refine pureA 1 (some 34) (mkB 13 3) ?_
              refine pureA 5 (some 38) (mkB 13 35) ?_
              refine take_ (i := 2) (N := some 35) (v := ?_) (a' := ?_) #[true, true, true, false, false, true, false, false, false, false, false, false, false] rfl rfl (take_ofW HT_.out HW_.out (by kernel_rfl)) (fun _ _ _ h => h) (Or.inl ⟨by rfl, ?_⟩) hHeld ?_ ?_
              rotate_left
              ·intro w' _
               go_simp
               with_reducible rfl
              rotate_left
              ·simp only [Act.put, List.setIfInBounds_toArray, List.set_cons_zero, List.set_cons_succ, i64_w, i32_w]
               rfl
              refine take_ (i := 6) (N := some 39) (v := ?_) (a' := ?_) #[true, true, true, false, false, true, true, false, false, false, false, false, false] rfl rfl (take_ofW HT_.out HW_.out (by kernel_rfl)) (fun _ _ _ h => h) (Or.inl ⟨by rfl, ?_⟩) hHeld ?_ ?_
              rotate_left
              ·intro w' _
               go_simp
               with_reducible rfl
              rotate_left
              ·simp only [Act.put, List.setIfInBounds_toArray, List.set_cons_zero, List.set_cons_succ, i64_w, i32_w]
               rfl
              refine oneA 3 (some 36) (mkB 13 111) (fun K hK => ?_)
              refine goes_ Tryz.func148 (by kernel_rfl) rfl #[.int .u8 (bt x0_1 0)] (by rfl) rfl rfl (by (try simp only [List.map_toArray, List.map_cons, List.map_nil]); first | done | rfl | (simp only [List.length_drop, List.length_take]; rfl)) ?_
              with_reducible refine (value_digit.calls (bt x0_1 0) t219 _ A22.out).mono ?_
              rintro e w' ⟨rfl, ⟨nd, rfl⟩⟩
              refine ⟨_, rfl, ?_⟩
              refine hK.out _ _ trivial (fun hHeld => ?_)
              clear hK K
              refine normA ?_
              refine pureA 4 (some 37) (mkB 13 127) ?_
              refine oneA 7 (some 40) (mkB 13 255) (fun K hK => ?_)
              refine goes_ Tryz.func148 (by kernel_rfl) rfl #[.int .u8 (bt x0_1 1)] (by rfl) rfl rfl (by (try simp only [List.map_toArray, List.map_cons, List.map_nil]); first | done | rfl | (simp only [List.length_drop, List.length_take]; rfl)) ?_
              with_reducible refine (value_digit.calls (bt x0_1 1) t220 _ A25.out).mono ?_
              rintro e w' ⟨rfl, ⟨nd, rfl⟩⟩
              refine ⟨_, rfl, ?_⟩
              refine hK.out _ _ trivial (fun hHeld => ?_)
              clear hK K
              refine normA ?_
              refine pureA 8 (some 41) (mkB 13 511) ?_
              refine pureA 9 (some 42) (mkB 13 1023) ?_
              refine oneA 10 (some 43) (mkB 13 2047) (fun K hK => ?_)
              refine value_ (w1 := ?_) (v := ?_) (by rfl) rfl ?_ ?_
              rotate_left 2
              ·go_simp
               constructor
               ·rfl
               ·rfl
              refine hK.out _ _ trivial (fun hHeld => ?_)
              clear hK K
              refine normA ?_
              refine oneA 11 (some 44) (mkB 13 4095) (fun K hK => ?_)
              refine Kd.R_append_step (Kd.int .u8) (w0 := w) w.heap.size (by rfl) (.tmp 33) (.tmp 43) 73 5 (.int .u8 0) 1 rfl Tryz.underlying73 info5 rfl (by decide) (by omega) u5 x5_1 ((Go.bits .or .i64 (wrap64 (t219 * 16)) t220) % 256) [.int .u8 ((Go.bits .or .i64 (wrap64 (t219 * 16)) t220) % 256)] (fun _ => True) (fun _ => False) rfl rfl ?aP (fun _ hk => hk.elim) ?aF ?aO ?aB ?aS ?aL ?_
              (case aP => exact rfl)
              (case aB => exact (bwA))
              (case aF => exact (fun _ _ => trivial))
              (case aO => exact (by (with_reducible repeat (first | apply Kd.R_alloc | apply Kd.R_drewN | apply Kd.R_drew)); exact HO_5.out))
              (case aS => exact (below_size (bwA)))
              (case aL => have := LMc26.out; omega)
              intro v222 w29 ho hb hg hat
              rw [← Ny221.out] at ho
              have n0_ := Aside0.mk (blk_grown (g := gb216) (o := .cells #[.int .i64 x217000_1, .int .i64 x217001_1, .string x217002_1] 55 (0, 0)) blkA hg (Kd.R_ne HO_5.out BK216.out (by decide)))
              have n1_ := Aside0.mk (hb)
              have n2_ := Aside0.mk (ho)
              clear BK216
              clear HB
              clear HO_5
              have BK216 := n0_
              have HB := n1_
              have HO223 := n2_
              clear n0_ n1_ n2_
              clear ho hb hg hat
              refine hK.out _ _ trivial (fun hHeld => ?_)
              clear hK K
              refine normA ?_
              refine pureA 12 (some 5) (mkB 13 8191) ?_
              refine done_ (done_of HT_.out (by kernel_rfl)) ?_
              try go_wp2
              go_roundg kj8
              case measure => have := HK1.out; have := HJ3.out; have := HJ8.out; omega
              case rel => exact ⟨(x0_1.extract 2 x0_1.size), (y221), (x217000_1), (x217001_1), (x217002_1), (endS), H', ⟨by have := HK1.out; have := HJ3.out; have := HJ8.out; omega⟩, ⟨by (with_reducible repeat (first | apply Kd.R_alloc | apply Kd.R_drewN | apply Kd.R_drew)); exact HO223.out⟩, ⟨by (with_reducible repeat (first | refine blk_drewN ?_ _ | refine blk_drew ?_ | refine blk_alloc ?_ _)); exact BK216.out⟩, ⟨bwA⟩⟩
             ·rw [if_neg c27] at H
              exact absurd H (by simp)
            ·rw [if_neg c26] at H
             exact absurd H (by simp)
           ·rw [if_neg c23] at H
            exact absurd H (by simp)
          ·rw [if_neg c20] at H
           exact absurd H (by simp)
      ·replace c8 := Bool.eq_false_iff.mpr c8
       subst c8
       have H1 : (if x0_1.toList = ([] : List UInt8) then (some (0, 0, (⟨#[]⟩ : ByteArray), (⟨#[]⟩ : ByteArray), 3)) else (if (x5_1.length : Int) > 200 then (some (0, 0, (⟨#[]⟩ : ByteArray), (⟨#[]⟩ : ByteArray), 2)) else (if 1 ≤ (x0_1.size : Int) then (some (4, 0, strOfNums x5_1, x0_1.extract 1 x0_1.size, 0)) else (none)))) = some (r1, r2, r3, r4, r5) := by rw [if_neg (show ¬ (false = true) by decide)] at H; exact H
       clear H
       have H := H1
       clear H1
       by_cases c30 : x0_1.toList = ([] : List UInt8)
       ·rw [if_pos c30] at H
        have c30b0 : (x0_1.toList == ([] : List UInt8)) = true := beq_iff_eq.mpr c30
        have c30b1 : (x0_1.toList != ([] : List UInt8)) = false := bne_eq_false_iff_eq.mpr c30
        clear c30
        simp only [Option.some.injEq, Prod.mk.injEq] at H
        obtain ⟨rfl, rfl, rfl, rfl, rfl⟩ := H
        have hcz31_0 : wc.cell? ⟨gb216, 0, none⟩ = some (.int .i64 x217000_1) := (blk_cell BK216.out 0).trans rfl
        have hcz31_1 : wc.cell? ⟨gb216, 1, none⟩ = some (.int .i64 x217001_1) := (blk_cell BK216.out 1).trans rfl
        have hcz31_2 : wc.cell? ⟨gb216, 2, none⟩ = some (.string x217002_1) := (blk_cell BK216.out 2).trans rfl
        have hfz31_0 := blk_frozen BK216.out 0
        have hfz31_1 := blk_frozen BK216.out 1
        have hfz31_2 := blk_frozen BK216.out 2
        go_wp2
        refine bodyPost_ret (results_ctt rfl _ _ gb216 55 #[.int .i64 0, .int .i64 0, .string (⟨#[]⟩ : ByteArray)] (0, 0) _ rfl (by (with_reducible repeat (first | refine blk_drewN ?_ _ | refine blk_drew ?_ | refine blk_alloc ?_ _)); refine blk_put (cs := #[.int .i64 0, .int .i64 0, .string x217002_1]) ?_ 2 _ rfl; (with_reducible repeat (first | refine blk_drewN ?_ _ | refine blk_drew ?_ | refine blk_alloc ?_ _)); refine blk_put (cs := #[.int .i64 0, .int .i64 x217001_1, .string x217002_1]) ?_ 1 _ rfl; (with_reducible repeat (first | refine blk_drewN ?_ _ | refine blk_drew ?_ | refine blk_alloc ?_ _)); refine blk_put (cs := #[.int .i64 x217000_1, .int .i64 x217001_1, .string x217002_1]) ?_ 0 _ rfl; (with_reducible repeat (first | refine blk_drewN ?_ _ | refine blk_drew ?_ | refine blk_alloc ?_ _)); exact BK216.out) Tryz.underlying55 rfl (by kernel_rfl)) rfl ?_
        exact ⟨endA, bwA⟩
       ·rw [if_neg c30] at H
        have c30b0 : (x0_1.toList == ([] : List UInt8)) = false := beq_eq_false_iff_ne.mpr c30
        have c30b1 : (x0_1.toList != ([] : List UInt8)) = true := bne_iff_ne.mpr c30
        by_cases c32 : (x5_1.length : Int) > 200
        ·rw [if_pos c32] at H
         have c32b0 : decide (200 < (x5_1.length : Int)) = true := decide_eq_true c32
         have c32b1 : decide (200 < x5_1.length) = true := decide_eq_true (by omega)
         clear c32
         simp only [Option.some.injEq, Prod.mk.injEq] at H
         obtain ⟨rfl, rfl, rfl, rfl, rfl⟩ := H
         obtain ⟨Ao33, co33, eo33⟩ := Kd.R_slice HO_5.out
         subst eo33
         have hcz34_0 : wc.cell? ⟨gb216, 0, none⟩ = some (.int .i64 x217000_1) := (blk_cell BK216.out 0).trans rfl
         have hcz34_1 : wc.cell? ⟨gb216, 1, none⟩ = some (.int .i64 x217001_1) := (blk_cell BK216.out 1).trans rfl
         have hcz34_2 : wc.cell? ⟨gb216, 2, none⟩ = some (.string x217002_1) := (blk_cell BK216.out 2).trans rfl
         have hfz34_0 := blk_frozen BK216.out 0
         have hfz34_1 := blk_frozen BK216.out 1
         have hfz34_2 := blk_frozen BK216.out 2
         go_wp2
         refine bodyPost_ret (results_ctt rfl _ _ gb216 55 #[.int .i64 0, .int .i64 0, .string (⟨#[]⟩ : ByteArray)] (0, 0) _ rfl (by (with_reducible repeat (first | refine blk_drewN ?_ _ | refine blk_drew ?_ | refine blk_alloc ?_ _)); refine blk_put (cs := #[.int .i64 0, .int .i64 0, .string x217002_1]) ?_ 2 _ rfl; (with_reducible repeat (first | refine blk_drewN ?_ _ | refine blk_drew ?_ | refine blk_alloc ?_ _)); refine blk_put (cs := #[.int .i64 0, .int .i64 x217001_1, .string x217002_1]) ?_ 1 _ rfl; (with_reducible repeat (first | refine blk_drewN ?_ _ | refine blk_drew ?_ | refine blk_alloc ?_ _)); refine blk_put (cs := #[.int .i64 x217000_1, .int .i64 x217001_1, .string x217002_1]) ?_ 0 _ rfl; (with_reducible repeat (first | refine blk_drewN ?_ _ | refine blk_drew ?_ | refine blk_alloc ?_ _)); exact BK216.out) Tryz.underlying55 rfl (by kernel_rfl)) rfl ?_
         exact ⟨endA, bwA⟩
        ·rw [if_neg c32] at H
         have c32b0 : decide (200 < (x5_1.length : Int)) = false := decide_eq_false c32
         have c32b1 : decide (200 < x5_1.length) = false := decide_eq_false (by omega)
         clear c32
         by_cases c35 : 1 ≤ (x0_1.size : Int)
         ·rw [if_pos c35] at H
          have c35b0 := eq_true c35
          have c35b1 : decide (1 ≤ (x0_1.size : Int)) = true := decide_eq_true c35
          clear c35
          simp only [Option.some.injEq, Prod.mk.injEq] at H
          obtain ⟨rfl, rfl, rfl, rfl, rfl⟩ := H
          obtain ⟨Ao36, co36, eo36⟩ := Kd.R_slice HO_5.out
          subst eo36
          try go_wp2
          have n0_ := Aside0.mk (Kd.R_drew HO_5.out)
          have n1_ := Aside0.mk (blk_drew BK216.out)
          have n2_ := Aside0.mk (below_drew1 HB.out)
          clear HO_5
          clear BK216
          clear HB
          have HO_5 := n0_
          have BK216 := n1_
          have HB := n2_
          clear n0_ n1_ n2_
          have hcv38 := own_string (P := Tryz.prog) Tryz.underlying73 Tryz.underlying5 Tryz.underlying9 (Kd.own_of_R HO_5.out)
          have hc0 := fun j => blk_cell (w := wc) BK216.out j
          have hf0 := fun j => blk_frozen (w := wc) BK216.out j
          have HB := Aside0.mk (show Below w.heap.size w wc from ⟨HB.out.os, HB.out.tape, HB.out.output, HB.out.size, HB.out.block⟩)
          go_region_with (fail)
          try go_wp2
          refine bodyPost_ret (results_ctt rfl _ _ gb216 55 #[.int .i64 4, .int .i64 0, .string (strOfNums x5_1)] (0, 0) _ rfl (by (with_reducible repeat (first | refine blk_drewN ?_ _ | refine blk_drew ?_ | refine blk_alloc ?_ _)); refine blk_put (cs := #[.int .i64 4, .int .i64 0, .string x217002_1]) ?_ 2 _ rfl; (with_reducible repeat (first | refine blk_drewN ?_ _ | refine blk_drew ?_ | refine blk_alloc ?_ _)); refine blk_put (cs := #[.int .i64 4, .int .i64 x217001_1, .string x217002_1]) ?_ 1 _ rfl; (with_reducible repeat (first | refine blk_drewN ?_ _ | refine blk_drew ?_ | refine blk_alloc ?_ _)); refine blk_put (cs := #[.int .i64 x217000_1, .int .i64 x217001_1, .string x217002_1]) ?_ 0 _ rfl; (with_reducible repeat (first | refine blk_drewN ?_ _ | refine blk_drew ?_ | refine blk_alloc ?_ _)); exact BK216.out) Tryz.underlying55 rfl (by kernel_rfl)) rfl ?_
          exact ⟨endA, bwA⟩
         ·rw [if_neg c35] at H
          exact absurd H (by simp)
 ·rw [if_neg c2] at H
  exact absurd H (by simp)

end Go.Proofs.YtplemgmfnghoeaaGreatDoor.A
