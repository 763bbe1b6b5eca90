-- By drv.py, the session's own driver round the kit's print: the machine's side of the laws, function by function. Not trusted: Lean checks it.
import Derived.Test.YtoajlmmkkcelgaaDoorAx0
import Derived.Test.YtoajlmmkkcelgaaDoorAx30
namespace Go.Proofs.YtoajlmmkkcelgaaDoor.A
open Go.RowKit Go.Proofs.YtoajlmmkkcelgaaDoorW.PrintWords Go.Proofs.YtoajlmmkkcelgaaDoorW.PrintLast Go.Proofs.YtoajlmmkkcelgaaDoorW.PrintMore
attribute [local go_sem] max2_int min2_int max_two min_two max_three min_three max_four min_four   -- for this text's walks alone
set_option linter.unusedVariables false
set_option linter.unusedSimpArgs false

/-! ### caduceusref01_Take: function 65 -/
mutual
def caduceusref01_Take.l0 : Nat → ByteArray → List Int → Int → Option ((List (S99)) × ByteArray × Int)
 | 0, _, _, _ => none
 | k + 1, x0, x1, x5 => if x5 < (x1.length : Int) then (if 0 ≤ x5 then (if (rd x1 x5) < 1 then (some (([] : List (S99)), (⟨#[]⟩ : ByteArray), 1)) else (if (rd x1 x5) > 4 then (some (([] : List (S99)), (⟨#[]⟩ : ByteArray), 1)) else (caduceusref01_Take.l0 k x0 x1 (wrap64 (x5 + 1))))) else (none)) else (caduceusref01_Take.l1 k x1 0 ([] : List (S99)) x0 0)
def caduceusref01_Take.l1 : Nat → List Int → Int → List (S99) → ByteArray → Int → Option ((List (S99)) × ByteArray × Int)
 | 0, _, _, _, _, _ => none
 | k + 1, x1, x7, x406000, x406001, x406002 => if x7 < (x1.length : Int) then (if 0 ≤ x7 then ((caduceusref01_take.f k x406001 (rd x1 x7)).bind fun bt407 => (if bt407.2.2.2 = 0 then (if x406000.length < 4398046511104 then (caduceusref01_Take.l1 k x1 (wrap64 (x7 + 1)) (x406000 ++ [(⟨rd x1 x7, bt407.1, bt407.2.1⟩ : S99)]) bt407.2.2.1 x406002) else (none)) else (some (([] : List (S99)), (⟨#[]⟩ : ByteArray), bt407.2.2.2)))) else (none)) else (some (x406000, x406001, x406002))
end
def caduceusref01_Take.f (k : Nat) (a0 : ByteArray) (l1 : List Int) : Option ((List (S99)) × ByteArray × Int) := if (l1.length : Int) > 4096 then (some (([] : List (S99)), (⟨#[]⟩ : ByteArray), 2)) else (caduceusref01_Take.l0 k a0 l1 0)
theorem caduceusref01_Take.mono_l : ∀ k, (∀ y0 y1 y2, LeO (caduceusref01_Take.l0 k y0 y1 y2) (caduceusref01_Take.l0 (k + 1) y0 y1 y2)) ∧ (∀ y0 y1 y2 y3 y4, LeO (caduceusref01_Take.l1 k y0 y1 y2 y3 y4) (caduceusref01_Take.l1 (k + 1) y0 y1 y2 y3 y4))
 | 0 => ⟨fun _ _ _ r h => by simp [caduceusref01_Take.l0] at h, fun _ _ _ _ _ r h => by simp [caduceusref01_Take.l1] at h⟩
 | k + 1 => by
  obtain ⟨ih0, ih1⟩ := caduceusref01_Take.mono_l k
  refine ⟨?_, ?_⟩
  all_goals intros
  all_goals first | unfold caduceusref01_Take.l0 | unfold caduceusref01_Take.l1
  all_goals repeat' first
   | (with_reducible exact ih0 _ _ _)
   | (with_reducible exact ih1 _ _ _ _ _)
   | (with_reducible exact caduceusref01_take.mono _ _ _)
   | (with_reducible exact LeO.refl _)
   | (with_reducible exact LeO.none _)
   | (with_reducible refine LeO.ite ?_ ?_)
   | (with_reducible refine LeO.bind ?_ (fun _ => ?_))
   | exact ih0 _ _ _
   | exact ih1 _ _ _ _ _
   | exact caduceusref01_take.mono _ _ _
   | exact LeO.none _
   | refine LeO.ite ?_ ?_
   | refine LeO.bind ?_ (fun _ => ?_)
theorem caduceusref01_Take.mono : ∀ a0 a1 k, LeO (caduceusref01_Take.f k a0 a1) (caduceusref01_Take.f (k + 1) a0 a1) := by
 intro a0 a1 k
 obtain ⟨ih0, ih1⟩ := caduceusref01_Take.mono_l k
 unfold caduceusref01_Take.f
 repeat' first
   | (with_reducible exact ih0 _ _ _)
   | (with_reducible exact ih1 _ _ _ _ _)
   | (with_reducible exact caduceusref01_take.mono _ _ _)
   | (with_reducible exact LeO.refl _)
   | (with_reducible exact LeO.none _)
   | (with_reducible refine LeO.ite ?_ ?_)
   | (with_reducible refine LeO.bind ?_ (fun _ => ?_))
   | exact ih0 _ _ _
   | exact ih1 _ _ _ _ _
   | exact caduceusref01_take.mono _ _ _
   | exact LeO.none _
   | refine LeO.ite ?_ ?_
   | refine LeO.bind ?_ (fun _ => ?_)
def caduceusref01_Take.T12 : Bool × List (List Nat × List Nat) := (true, [([], []), ([0], [0]), ([], []), ([], []), ([2, 3], [2, 3]), ([4], [4]), ([1, 5], [1, 5]), ([], []), ([7, 6, 6, 0, 1, 2, 3, 4, 5, 6, 7], [6, 7])])
def caduceusref01_Take.B12 : List Nat := [0, 1, 0, 0, 12, 28, 63, 0, 255]
theorem caduceusref01_Take.tab12 : rtab .any (opsOf Tryd.f65 12) = caduceusref01_Take.T12 := by kernel_rfl
theorem caduceusref01_Take.bits12 : waitsOk caduceusref01_Take.T12.2 caduceusref01_Take.B12 = true := by kernel_rfl
def caduceusref01_Take.T15 : Bool × List (List Nat × List Nat) := (true, [([], []), ([0], [0]), ([], []), ([], []), ([2, 3], [2, 3]), ([4], [4]), ([], []), ([6], [6]), ([], []), ([8], [8]), ([5, 7, 9], [5, 7, 9]), ([10], [10]), ([1, 11], [1, 11]), ([0, 1, 2, 3, 4, 5, 6, 7, 8, 9, 10, 11, 12], []), ([13, 12, 12, 0, 1, 2, 3, 4, 5, 6, 7, 8, 9, 10, 11, 12], [12, 13])])
def caduceusref01_Take.B15 : List Nat := [0, 1, 0, 0, 12, 28, 0, 64, 0, 256, 1020, 2044, 4095, 8191, 16383]
theorem caduceusref01_Take.tab15 : rtab .any (opsOf Tryd.f65 15) = caduceusref01_Take.T15 := by kernel_rfl
theorem caduceusref01_Take.bits15 : waitsOk caduceusref01_Take.T15.2 caduceusref01_Take.B15 = true := by kernel_rfl
set_option maxHeartbeats 8000000 in
set_option maxRecDepth 100000 in
theorem caduceusref01_Take.calls (k : Nat) (a0 : ByteArray) (A1 : Option Addr) (c1 : Nat) (l1 : List Int) (r1 : List (S99)) (r2 : ByteArray) (r3 : Int) (w : World) (hr1 : Kd.C (Kd.int .i64) w A1 l1.length l1) (hc1 : l1.length ≤ c1) (h : caduceusref01_Take.f k a0 l1 = some (r1, r2, r3)) :
  Calls Tryd.prog 65 #[.string a0, .slice A1 l1.length c1] w fun e w' => ∃ v0_ : Value, e = .returned (.agg #[v0_, .string r2, .int .i64 r3]) ∧ Kd.R k99 99 w' w.heap.size (fun _ => True) v0_ r1 ∧ Below w.heap.size w w' := by
 have hu97 := Tryd.underlying97
 have hu93 := Tryd.underlying93
 have hu99 := Tryd.underlying99
 have HR1 := Aside0.mk hr1
 have HC1 := Aside0.mk hc1
 clear hr1 hc1
 have HB := Aside0.mk (Below.refl w.heap.size w)
 have H : (if (l1.length : Int) > 4096 then (some (([] : List (S99)), (⟨#[]⟩ : ByteArray), 2)) else (caduceusref01_Take.l0 k a0 l1 0)) = some (r1, r2, r3) := h
 clear h
 by_cases c3 : (l1.length : Int) > 4096
 ·rw [if_pos c3] at H
  have c3b0 : decide (4096 < (l1.length : Int)) = true := decide_eq_true c3
  have c3b1 : decide (4096 < l1.length) = true := decide_eq_true (by omega)
  clear c3
  simp only [Option.some.injEq, Prod.mk.injEq] at H
  obtain ⟨rfl, rfl, rfl⟩ := H
  go_enter Tryd.func65, Tryd.ntmps65
  go_wp2_with (first | ((with_reducible refine gate_dst (N := 4) rfl ?_); refine box_event ?hg (N := 4) ?hd (cs := #[.slice none 0 0, .string (⟨#[]⟩ : ByteArray), .int .i64 0]) (t := 97) ?hr ?_; (case hd => rfl); (case hg => rfl); (case hr => first | (go_simp; done) | (go_simp; rfl)); intro gb402 hg w4 hbox hb; have n0_ := Aside0.mk (below_step bwA hb); have n1_ := Aside0.mk (hbox); have n2_ := Aside0.mk ((by rw [hg]; exact (below_size bwA) : w.heap.size ≤ gb402)); have n3_ := Aside0.mk ((by rw [hg]; exact (below_size bwA) : w.heap.size ≤ gb402)); clear HB; have HB := n0_; have BK402 := n1_; have GW402 := n2_; have GE402 := n3_; clear n0_ n1_ n2_ n3_; clear hb hbox hg; have hcz5_0 : w4.cell? ⟨gb402, 0, none⟩ = some (.slice none 0 0) := (blk_cell BK402.out 0).trans rfl; have hcz5_1 : w4.cell? ⟨gb402, 1, none⟩ = some (.string (⟨#[]⟩ : ByteArray)) := (blk_cell BK402.out 1).trans rfl; have hcz5_2 : w4.cell? ⟨gb402, 2, none⟩ = some (.int .i64 0) := (blk_cell BK402.out 2).trans rfl; have hfz5_0 := blk_frozen BK402.out 0; have hfz5_1 := blk_frozen BK402.out 1; have hfz5_2 := blk_frozen BK402.out 2))
  refine bodyPost_ret (results_cell_row rfl _ _ gb402 97 #[.slice none 0 0, .string (⟨#[]⟩ : ByteArray), .int .i64 2] (0, 0) _ rfl (by (with_reducible repeat (first | refine blk_drewN ?_ _ | refine blk_drew ?_ | refine blk_alloc ?_ _)); refine blk_put (cs := #[.slice none 0 0, .string (⟨#[]⟩ : ByteArray), .int .i64 0]) ?_ 2 _ rfl; (with_reducible repeat (first | refine blk_drewN ?_ _ | refine blk_drew ?_ | refine blk_alloc ?_ _)); refine blk_put (cs := #[.slice none 0 0, .string (⟨#[]⟩ : ByteArray), .int .i64 0]) ?_ 1 _ rfl; (with_reducible repeat (first | refine blk_drewN ?_ _ | refine blk_drew ?_ | refine blk_alloc ?_ _)); refine blk_put (cs := #[.slice none 0 0, .string (⟨#[]⟩ : ByteArray), .int .i64 0]) ?_ 0 _ rfl; (with_reducible repeat (first | refine blk_drewN ?_ _ | refine blk_drew ?_ | refine blk_alloc ?_ _)); exact BK402.out) Tryd.underlying97 rfl (by kernel_rfl)) rfl ?_
  exact ⟨_, by first | rfl | (simp [errW_none, errW_some] <;> rfl) | (simp [*, errW_none, errW_some] <;> rfl), by first | exact Kd.R_nil _ _ _ _ _ | exact Kd.N_nil _ _ _ _ _ | exact Kd.V_nil _ _ _ _ _ | exact Kd.Q_nil _ _ _ _ _ | exact Kd.S_nil _ _ _ _ _, by repeat (first | (with_reducible first | exact HB.out | apply below_alloc | apply pw_below_drewN | apply below_drew1 | refine below_set ?_ GE402.out) | exact HB.out)⟩
 ·rw [if_neg c3] at H
  have c3b0 : decide (4096 < (l1.length : Int)) = false := decide_eq_false c3
  have c3b1 : decide (4096 < l1.length) = false := decide_eq_false (by omega)
  clear c3
  have H' := Aside0.mk H
  clear H
  go_enter Tryd.func65, Tryd.ntmps65
  go_wp2_with (first | ((with_reducible refine gate_dst (N := 4) rfl ?_); refine box_event ?hg (N := 4) ?hd (cs := #[.slice none 0 0, .string (⟨#[]⟩ : ByteArray), .int .i64 0]) (t := 97) ?hr ?_; (case hd => rfl); (case hg => rfl); (case hr => first | (go_simp; done) | (go_simp; rfl)); intro gb402 hg w6 hbox hb; have n0_ := Aside0.mk (below_step bwA hb); have n1_ := Aside0.mk (hbox); have n2_ := Aside0.mk ((by rw [hg]; exact (below_size bwA) : w.heap.size ≤ gb402)); have n3_ := Aside0.mk ((by rw [hg]; exact (below_size bwA) : w.heap.size ≤ gb402)); clear HB; have HB := n0_; have BK402 := n1_; have GW402 := n2_; have GE402 := n3_; clear n0_ n1_ n2_ n3_; clear hb hbox hg))
  go_loopg [5] k (fun kq v5 w' => ∃ (x5_1 : Int) (x403001_1 : ByteArray) (x403002_1 : Int), v5 = .int .i64 x5_1 ∧ Aside0 (caduceusref01_Take.l0 kq a0 l1 x5_1 = some (r1, r2, r3)) ∧ Aside0 (kq ≤ k) ∧ Aside0 (w'.heap[gb402]? = some (.cells #[(.slice none 0 0), .string x403001_1, .int .i64 x403002_1] 97 (0, 0))) ∧ Aside0 (Below w.heap.size w w'))
  case atStart => exact ⟨(0), ((⟨#[]⟩ : ByteArray)), (0), (by first | rfl | (simp; done) | (simp [*]; done)), H', ⟨Nat.le_refl _⟩, ⟨by (with_reducible repeat (first | refine blk_drewN ?_ _ | refine blk_drew ?_ | refine blk_alloc ?_ _)); exact BK402.out⟩, ⟨by repeat (first | (with_reducible first | exact HB.out | apply below_alloc | apply pw_below_drewN | apply below_drew1 | refine below_set ?_ GE402.out) | exact HB.out)⟩⟩
  case round =>
   clear H'
   try clear c1
   try clear p2
   try clear c3
   try clear c3b0
   try clear c3b1
   try clear c6
   try clear hcz5_0
   try clear hcz5_1
   try clear hcz5_2
   try clear hfz5_0
   try clear hfz5_1
   try clear hfz5_2
   obtain ⟨x5_1, x403001_1, x403002_1, rfl, HA, HK1, BK402, HB⟩ := hrel
   cases gk with
   | zero => exact absurd HA.out (by simp [caduceusref01_Take.l0])
   | succ k1 =>
    have H := HA.out
    clear HA
    simp only [caduceusref01_Take.l0] at H
    by_cases c7 : x5_1 < (l1.length : Int)
    ·rw [if_pos c7] at H
     have c7b0 : decide (x5_1 < (l1.length : Int)) = true := decide_eq_true c7
     clear c7
     by_cases c8 : 0 ≤ x5_1
     ·rw [if_pos c8] at H
      have c8b0 : decide (0 ≤ x5_1) = true := decide_eq_true c8
      clear c8
      by_cases c9 : (rd l1 x5_1) < 1
      ·rw [if_pos c9] at H
       have c9b0 : decide ((rd l1 x5_1) < 1) = true := decide_eq_true c9
       clear c9
       simp only [Option.some.injEq, Prod.mk.injEq] at H
       obtain ⟨rfl, rfl, rfl⟩ := H
       have p403 : 0 ≤ (x5_1 : Int) := of_decide_eq_true (by first | (with_reducible assumption) | assumption)
       have q403 : x5_1 < (l1.length : Int) := of_decide_eq_true (by first | (with_reducible assumption) | assumption)
       obtain ⟨ad403, e403, hx403_0⟩ := Kd.at_int HR1.out x5_1 p403 q403
       cases e403
       replace hx403_0 := (HB.out.cell (World.block_lt_of_cell? w _ hx403_0)).trans hx403_0
       replace p403 := eq_true p403
       replace q403 := eq_true q403
       have hcz10_0 : wr.cell? ⟨gb402, 0, none⟩ = some (.slice none 0 0) := (blk_cell BK402.out 0).trans rfl
       have hcz10_1 : wr.cell? ⟨gb402, 1, none⟩ = some (.string x403001_1) := (blk_cell BK402.out 1).trans rfl
       have hcz10_2 : wr.cell? ⟨gb402, 2, none⟩ = some (.int .i64 x403002_1) := (blk_cell BK402.out 2).trans rfl
       have hfz10_0 := blk_frozen BK402.out 0
       have hfz10_1 := blk_frozen BK402.out 1
       have hfz10_2 := blk_frozen BK402.out 2
       go_wp2
       refine bodyPost_ret (results_cell_row rfl _ _ gb402 97 #[.slice none 0 0, .string (⟨#[]⟩ : ByteArray), .int .i64 1] (0, 0) _ rfl (by (with_reducible repeat (first | refine blk_drewN ?_ _ | refine blk_drew ?_ | refine blk_alloc ?_ _)); refine blk_put (cs := #[.slice none 0 0, .string (⟨#[]⟩ : ByteArray), .int .i64 x403002_1]) ?_ 2 _ rfl; (with_reducible repeat (first | refine blk_drewN ?_ _ | refine blk_drew ?_ | refine blk_alloc ?_ _)); refine blk_put (cs := #[.slice none 0 0, .string x403001_1, .int .i64 x403002_1]) ?_ 1 _ rfl; (with_reducible repeat (first | refine blk_drewN ?_ _ | refine blk_drew ?_ | refine blk_alloc ?_ _)); refine blk_put (cs := #[.slice none 0 0, .string x403001_1, .int .i64 x403002_1]) ?_ 0 _ rfl; (with_reducible repeat (first | refine blk_drewN ?_ _ | refine blk_drew ?_ | refine blk_alloc ?_ _)); exact BK402.out) Tryd.underlying97 rfl (by kernel_rfl)) rfl ?_
       exact ⟨_, by first | rfl | (simp [errW_none, errW_some] <;> rfl) | (simp [*, errW_none, errW_some] <;> rfl), by first | exact Kd.R_nil _ _ _ _ _ | exact Kd.N_nil _ _ _ _ _ | exact Kd.V_nil _ _ _ _ _ | exact Kd.Q_nil _ _ _ _ _ | exact Kd.S_nil _ _ _ _ _, by repeat (first | (with_reducible first | exact HB.out | apply below_alloc | apply pw_below_drewN | apply below_drew1 | refine below_set ?_ GE402.out) | exact HB.out)⟩
      ·rw [if_neg c9] at H
       have c9b0 : decide ((rd l1 x5_1) < 1) = false := decide_eq_false c9
       clear c9
       by_cases c11 : (rd l1 x5_1) > 4
       ·rw [if_pos c11] at H
        have c11b0 : decide (4 < (rd l1 x5_1)) = true := decide_eq_true c11
        clear c11
        simp only [Option.some.injEq, Prod.mk.injEq] at H
        obtain ⟨rfl, rfl, rfl⟩ := H
        have p403 : 0 ≤ (x5_1 : Int) := of_decide_eq_true (by first | (with_reducible assumption) | assumption)
        have q403 : x5_1 < (l1.length : Int) := of_decide_eq_true (by first | (with_reducible assumption) | assumption)
        obtain ⟨ad403, e403, hx403_0⟩ := Kd.at_int HR1.out x5_1 p403 q403
        cases e403
        replace hx403_0 := (HB.out.cell (World.block_lt_of_cell? w _ hx403_0)).trans hx403_0
        replace p403 := eq_true p403
        replace q403 := eq_true q403
        have p404 : 0 ≤ (x5_1 : Int) := of_decide_eq_true (by first | (with_reducible assumption) | assumption)
        have q404 : x5_1 < (l1.length : Int) := of_decide_eq_true (by first | (with_reducible assumption) | assumption)
        obtain ⟨ad404, e404, hx404_0⟩ := Kd.at_int HR1.out x5_1 p404 q404
        obtain rfl : ad403 = ad404 := (by injection e404)
        replace hx404_0 := (HB.out.cell (World.block_lt_of_cell? w _ hx404_0)).trans hx404_0
        replace p404 := eq_true p404
        replace q404 := eq_true q404
        have hcz12_0 : wr.cell? ⟨gb402, 0, none⟩ = some (.slice none 0 0) := (blk_cell BK402.out 0).trans rfl
        have hcz12_1 : wr.cell? ⟨gb402, 1, none⟩ = some (.string x403001_1) := (blk_cell BK402.out 1).trans rfl
        have hcz12_2 : wr.cell? ⟨gb402, 2, none⟩ = some (.int .i64 x403002_1) := (blk_cell BK402.out 2).trans rfl
        have hfz12_0 := blk_frozen BK402.out 0
        have hfz12_1 := blk_frozen BK402.out 1
        have hfz12_2 := blk_frozen BK402.out 2
        go_wp2
        refine bodyPost_ret (results_cell_row rfl _ _ gb402 97 #[.slice none 0 0, .string (⟨#[]⟩ : ByteArray), .int .i64 1] (0, 0) _ rfl (by (with_reducible repeat (first | refine blk_drewN ?_ _ | refine blk_drew ?_ | refine blk_alloc ?_ _)); refine blk_put (cs := #[.slice none 0 0, .string (⟨#[]⟩ : ByteArray), .int .i64 x403002_1]) ?_ 2 _ rfl; (with_reducible repeat (first | refine blk_drewN ?_ _ | refine blk_drew ?_ | refine blk_alloc ?_ _)); refine blk_put (cs := #[.slice none 0 0, .string x403001_1, .int .i64 x403002_1]) ?_ 1 _ rfl; (with_reducible repeat (first | refine blk_drewN ?_ _ | refine blk_drew ?_ | refine blk_alloc ?_ _)); refine blk_put (cs := #[.slice none 0 0, .string x403001_1, .int .i64 x403002_1]) ?_ 0 _ rfl; (with_reducible repeat (first | refine blk_drewN ?_ _ | refine blk_drew ?_ | refine blk_alloc ?_ _)); exact BK402.out) Tryd.underlying97 rfl (by kernel_rfl)) rfl ?_
        exact ⟨_, by first | rfl | (simp [errW_none, errW_some] <;> rfl) | (simp [*, errW_none, errW_some] <;> rfl), by first | exact Kd.R_nil _ _ _ _ _ | exact Kd.N_nil _ _ _ _ _ | exact Kd.V_nil _ _ _ _ _ | exact Kd.Q_nil _ _ _ _ _ | exact Kd.S_nil _ _ _ _ _, by repeat (first | (with_reducible first | exact HB.out | apply below_alloc | apply pw_below_drewN | apply below_drew1 | refine below_set ?_ GE402.out) | exact HB.out)⟩
       ·rw [if_neg c11] at H
        have c11b0 : decide (4 < (rd l1 x5_1)) = false := decide_eq_false c11
        clear c11
        have H' := Aside0.mk H
        clear H
        have p403 : 0 ≤ (x5_1 : Int) := of_decide_eq_true (by first | (with_reducible assumption) | assumption)
        have q403 : x5_1 < (l1.length : Int) := of_decide_eq_true (by first | (with_reducible assumption) | assumption)
        obtain ⟨ad403, e403, hx403_0⟩ := Kd.at_int HR1.out x5_1 p403 q403
        cases e403
        replace hx403_0 := (HB.out.cell (World.block_lt_of_cell? w _ hx403_0)).trans hx403_0
        replace p403 := eq_true p403
        replace q403 := eq_true q403
        have p404 : 0 ≤ (x5_1 : Int) := of_decide_eq_true (by first | (with_reducible assumption) | assumption)
        have q404 : x5_1 < (l1.length : Int) := of_decide_eq_true (by first | (with_reducible assumption) | assumption)
        obtain ⟨ad404, e404, hx404_0⟩ := Kd.at_int HR1.out x5_1 p404 q404
        obtain rfl : ad403 = ad404 := (by injection e404)
        replace hx404_0 := (HB.out.cell (World.block_lt_of_cell? w _ hx404_0)).trans hx404_0
        replace p404 := eq_true p404
        replace q404 := eq_true q404
        go_wp2
        go_roundg k1
        case measure => have := HK1.out; omega
        case rel => exact ⟨(wrap64 (x5_1 + 1)), (x403001_1), (x403002_1), (by first | rfl | (simp; done) | (simp [*]; done)), H', ⟨by have := HK1.out; omega⟩, ⟨by (with_reducible repeat (first | refine blk_drewN ?_ _ | refine blk_drew ?_ | refine blk_alloc ?_ _)); exact BK402.out⟩, ⟨by repeat (first | (with_reducible first | exact HB.out | apply below_alloc | apply pw_below_drewN | apply below_drew1 | refine below_set ?_ GE402.out) | exact HB.out)⟩⟩
     ·rw [if_neg c8] at H
      exact absurd H (by simp)
    ·rw [if_neg c7] at H
     have c7b0 : decide (x5_1 < (l1.length : Int)) = false := decide_eq_false c7
     clear c7
     have H' := Aside0.mk H
     clear H
     go_wp2_with (first | ((with_reducible refine gate_dst (N := 6) rfl ?_); refine box_event ?hg (N := 6) ?hd (cs := #[.slice none 0 0, .string (⟨#[]⟩ : ByteArray), .int .i64 0]) (t := 97) ?hr ?_; (case hd => rfl); (case hg => rfl); (case hr => first | (go_simp; done) | (go_simp; rfl)); intro gb405 hg w13 hbox hb; have n0_ := Aside0.mk (blk_below (g := gb402) (o := .cells #[.slice none 0 0, .string x403001_1, .int .i64 x403002_1] 97 (0, 0)) blkA hb); have n1_ := Aside0.mk (below_step bwA hb); have n2_ := Aside0.mk (hbox); have n3_ := Aside0.mk ((by rw [hg]; exact (below_size bwA) : w.heap.size ≤ gb405)); have n4_ := Aside0.mk ((by rw [hg]; exact (below_size bwA) : w.heap.size ≤ gb405)); have n5_ := Aside0.mk ((by rw [hg]; exact Nat.ne_of_lt (blk_lt (g := gb402) (o := .cells #[.slice none 0 0, .string x403001_1, .int .i64 x403002_1] 97 (0, 0)) blkA) : gb402 ≠ gb405)); have n6_ := Aside0.mk ((by rw [hg]; exact Nat.ne_of_gt (blk_lt (g := gb402) (o := .cells #[.slice none 0 0, .string x403001_1, .int .i64 x403002_1] 97 (0, 0)) blkA) : gb405 ≠ gb402)); clear BK402; clear HB; have BK402 := n0_; have HB := n1_; have BK405 := n2_; have GW405 := n3_; have GE405 := n4_; have NB402_405 := n5_; have NB405_402 := n6_; clear n0_ n1_ n2_ n3_ n4_ n5_ n6_; clear hb hbox hg; have hnb14 := NB405_402.out; have hnc14 := NB402_405.out; have hcz15_0 : w13.cell? ⟨gb405, 0, none⟩ = some (.slice none 0 0) := (blk_cell BK405.out 0).trans rfl; have hcz15_1 : w13.cell? ⟨gb405, 1, none⟩ = some (.string (⟨#[]⟩ : ByteArray)) := (blk_cell BK405.out 1).trans rfl; have hcz15_2 : w13.cell? ⟨gb405, 2, none⟩ = some (.int .i64 0) := (blk_cell BK405.out 2).trans rfl; have hfz15_0 := blk_frozen BK405.out 0; have hfz15_1 := blk_frozen BK405.out 1; have hfz15_2 := blk_frozen BK405.out 2))
     go_loopg [7] k1 (fun kq v7 w' => ∃ (x7_2 : Int) (x403001_2 : ByteArray) (x403002_2 : Int) (x406000_2 : List (S99)) (x406001_2 : ByteArray) (u406000 : Value), v7 = .int .i64 x7_2 ∧ Aside0 (caduceusref01_Take.l1 kq l1 x7_2 x406000_2 x406001_2 0 = some (r1, r2, r3)) ∧ Aside0 (kq ≤ k1) ∧ Aside0 (Kd.R k99 99 w' w.heap.size (fun _ => True) u406000 x406000_2) ∧ Aside0 (w'.heap[gb402]? = some (.cells #[(.slice none 0 0), .string x403001_2, .int .i64 x403002_2] 97 (0, 0))) ∧ Aside0 (w'.heap[gb405]? = some (.cells #[u406000, .string x406001_2, .int .i64 0] 97 (0, 0))) ∧ Aside0 (Below w.heap.size w w'))
     case atStart => exact ⟨(0), (x403001_1), (x403002_1), (([] : List (S99))), (a0), (.slice none 0 0), (by first | rfl | (simp; done) | (simp [*]; done)), H', ⟨Nat.le_refl _⟩, ⟨by first | exact Kd.R_nil _ _ _ _ _ | exact Kd.N_nil _ _ _ _ _ | exact Kd.V_nil _ _ _ _ _ | exact Kd.Q_nil _ _ _ _ _ | exact Kd.S_nil _ _ _ _ _⟩, ⟨by (with_reducible repeat (first | refine blk_drewN ?_ _ | refine blk_drew ?_ | refine blk_alloc ?_ _)); refine blk_far ?_ NB402_405.out _; (with_reducible repeat (first | refine blk_drewN ?_ _ | refine blk_drew ?_ | refine blk_alloc ?_ _)); refine blk_far ?_ NB402_405.out _; (with_reducible repeat (first | refine blk_drewN ?_ _ | refine blk_drew ?_ | refine blk_alloc ?_ _)); refine blk_far ?_ NB402_405.out _; (with_reducible repeat (first | refine blk_drewN ?_ _ | refine blk_drew ?_ | refine blk_alloc ?_ _)); exact BK402.out⟩, ⟨by (with_reducible repeat (first | refine blk_drewN ?_ _ | refine blk_drew ?_ | refine blk_alloc ?_ _)); refine blk_put (cs := #[.slice none 0 0, .string a0, .int .i64 0]) ?_ 2 _ rfl; (with_reducible repeat (first | refine blk_drewN ?_ _ | refine blk_drew ?_ | refine blk_alloc ?_ _)); refine blk_put (cs := #[.slice none 0 0, .string (⟨#[]⟩ : ByteArray), .int .i64 0]) ?_ 1 _ rfl; (with_reducible repeat (first | refine blk_drewN ?_ _ | refine blk_drew ?_ | refine blk_alloc ?_ _)); refine blk_put (cs := #[.slice none 0 0, .string (⟨#[]⟩ : ByteArray), .int .i64 0]) ?_ 0 _ rfl; (with_reducible repeat (first | refine blk_drewN ?_ _ | refine blk_drew ?_ | refine blk_alloc ?_ _)); exact BK405.out⟩, ⟨by repeat (first | (with_reducible first | exact HB.out | apply below_alloc | apply pw_below_drewN | apply below_drew1 | refine below_set ?_ GE402.out | refine below_set ?_ GE405.out) | exact HB.out)⟩⟩
     case round =>
      clear H'
      try clear c1
      try clear p2
      try clear c3
      try clear c3b0
      try clear c3b1
      try clear p4
      try clear q4
      try clear hx4
      try clear c6
      try clear p6
      try clear c7
      try clear c7b0
      try clear c8
      try clear c8b0
      try clear c9
      try clear c9b0
      try clear c11
      try clear c11b0
      try clear c14
      try clear hcz10_0
      try clear hcz10_1
      try clear hcz10_2
      try clear hcz12_0
      try clear hcz12_1
      try clear hcz12_2
      try clear hcz15_0
      try clear hcz15_1
      try clear hcz15_2
      try clear hcz5_0
      try clear hcz5_1
      try clear hcz5_2
      try clear hfz10_0
      try clear hfz10_1
      try clear hfz10_2
      try clear hfz12_0
      try clear hfz12_1
      try clear hfz12_2
      try clear hfz15_0
      try clear hfz15_1
      try clear hfz15_2
      try clear hfz5_0
      try clear hfz5_1
      try clear hfz5_2
      try clear hx403_0
      try clear hx404_0
      try clear p2
      try clear p403
      try clear p404
      try clear q403
      try clear q404
      obtain ⟨x7_2, x403001_2, x403002_2, x406000_2, x406001_2, u406000, rfl, HA, HK2, HO_406000, BK402, BK405, HB⟩ := hrel
      cases gk with
      | zero => exact absurd HA.out (by simp [caduceusref01_Take.l1])
      | succ k2 =>
       have H := HA.out
       clear HA
       simp only [caduceusref01_Take.l1] at H
       by_cases c16 : x7_2 < (l1.length : Int)
       ·rw [if_pos c16] at H
        have c16b0 : decide (x7_2 < (l1.length : Int)) = true := decide_eq_true c16
        clear c16
        by_cases c17 : 0 ≤ x7_2
        ·rw [if_pos c17] at H
         have c17b0 : decide (0 ≤ x7_2) = true := decide_eq_true c17
         clear c17
         replace H := Option.bind_eq_some_iff.mp H
         obtain ⟨⟨t407, t408, t409, t410⟩, A180, H⟩ := H
         replace H : (if t410 = 0 then (if x406000_2.length < 4398046511104 then (caduceusref01_Take.l1 k2 l1 (wrap64 (x7_2 + 1)) (x406000_2 ++ [(⟨rd l1 x7_2, t407, t408⟩ : S99)]) t409 0) else (none)) else (some (([] : List (S99)), (⟨#[]⟩ : ByteArray), t410))) = some (r1, r2, r3) := H
         have A18 := Aside0.mk A180
         clear A180
         by_cases c19 : t410 = 0
         ·rw [if_pos c19] at H
          have c19b0 : (t410 == 0) = true := beq_iff_eq.mpr c19
          have c19b1 : (t410 != 0) = false := bne_eq_false_iff_eq.mpr c19
          clear c19
          by_cases c20 : x406000_2.length < 4398046511104
          ·rw [if_pos c20] at H
           have LMc20 := Aside0.mk c20
           clear c20
           obtain ⟨y413, hy413⟩ : ∃ y_ : List (S99), y_ = (x406000_2 ++ [(⟨rd l1 x7_2, t407, t408⟩ : S99)]) := ⟨_, rfl⟩
           replace H : (caduceusref01_Take.l1 k2 l1 (wrap64 (x7_2 + 1)) y413 t409 0) = some (r1, r2, r3) := by first | (rw [hy413]; with_reducible exact H) | (have H2_ := (Option.bind_some _ _).symm.trans H; rw [hy413]; with_reducible exact H2_) | (have H2_ := (Option.bind_some _ _).symm.trans H; with_reducible exact H2_) | with_reducible exact H | (rw [hy413]; exact H) | exact H
           have Ny413 := Aside0.mk hy413
           clear hy413
           have H' := Aside0.mk H
           clear H
           try go_wp2
           have n0_ := Aside0.mk (Kd.R_drew HO_406000.out)
           have n1_ := Aside0.mk (blk_drew BK402.out)
           have n2_ := Aside0.mk (blk_drew BK405.out)
           have n3_ := Aside0.mk (below_drew1 HB.out)
           clear HO_406000
           clear BK402
           clear BK405
           clear HB
           have HO_406000 := n0_
           have BK402 := n1_
           have BK405 := n2_
           have HB := n3_
           clear n0_ n1_ n2_ n3_
           have p406 : 0 ≤ (x7_2 : Int) := of_decide_eq_true (by first | (with_reducible assumption) | assumption)
           have q406 : x7_2 < (l1.length : Int) := of_decide_eq_true (by first | (with_reducible assumption) | assumption)
           obtain ⟨ad406, e406, hx406_0⟩ := Kd.at_int HR1.out x7_2 p406 q406
           have hw406_0 := hx406_0
           cases e406
           replace hx406_0 := (HB.out.cell (World.block_lt_of_cell? w _ hx406_0)).trans hx406_0
           replace p406 := eq_true p406
           replace q406 := eq_true q406
           refine start_ (n := 9) (S := fun w' => w'.cell? ⟨gb405, 0, none⟩ = some (u406000) ∧ w'.cell? ⟨gb405, 1, none⟩ = some (.string x406001_2) ∧ w'.cell? ⟨gb405, 2, none⟩ = some (.int .i64 0) ∧ w'.cell? (ad406.add (x7_2).toNat) = some (.int .i64 (rd l1 x7_2))) (ds := []) #[false, false, false, false, false, false, false, false, false] (by kernel_rfl) rfl rfl ⟨(blk_cell BK405.out 0).trans rfl, (blk_cell BK405.out 1).trans rfl, (blk_cell BK405.out 2).trans rfl, ((HB.out.cell (World.block_lt_of_cell? w _ hw406_0)).trans hw406_0)⟩ (fun hHeld => ?_); refine with_tabW caduceusref01_Take.tab12 caduceusref01_Take.bits12 (fun HT_ HW_ => ?_)
           generalize wr.drew = w21 at HO_406000 BK402 BK405 HB hx406_0 hHeld ⊢
           refine pure_ (i := 0) (N := some 40) (v := ?_) (a' := ?_) #[true, false, false, false, false, false, false, false, false] rfl rfl (any_of HT_.out (by kernel_rfl)) (fun _ _ _ h => h) (Or.inl ⟨by rfl, ?_⟩) ?_ ?_
           rotate_left
           ·intro w'
            go_simp
            with_reducible rfl
           rotate_left
           ·simp only [Act.put, List.setIfInBounds_toArray, List.set_cons_zero, List.set_cons_succ, i64_w, i32_w]
            rfl
           refine pure_ (i := 2) (N := some 42) (v := ?_) (a' := ?_) #[true, false, true, false, false, false, false, false, false] rfl rfl (any_of HT_.out (by kernel_rfl)) (fun _ _ _ h => h) (Or.inl ⟨by rfl, ?_⟩) ?_ ?_
           rotate_left
           ·intro w'
            go_simp
            with_reducible rfl
           rotate_left
           ·simp only [Act.put, List.setIfInBounds_toArray, List.set_cons_zero, List.set_cons_succ, i64_w, i32_w]
            rfl
           refine pure_ (i := 3) (N := some 43) (v := ?_) (a' := ?_) #[true, false, true, true, false, false, false, false, false] rfl rfl (any_of HT_.out (by kernel_rfl)) (fun _ _ _ h => h) (Or.inl ⟨by rfl, ?_⟩) ?_ ?_
           rotate_left
           ·intro w'
            go_simp
            with_reducible rfl
           rotate_left
           ·simp only [Act.put, List.setIfInBounds_toArray, List.set_cons_zero, List.set_cons_succ, i64_w, i32_w]
            rfl
           refine pure_ (i := 4) (N := some 44) (v := ?_) (a' := ?_) #[true, false, true, true, true, false, false, false, false] rfl rfl (any_of HT_.out (by kernel_rfl)) (fun _ _ _ h => h) (Or.inl ⟨by rfl, ?_⟩) ?_ ?_
           rotate_left
           ·intro w'
            go_simp
            with_reducible rfl
           rotate_left
           ·simp only [Act.put, List.setIfInBounds_toArray, List.set_cons_zero, List.set_cons_succ, i64_w, i32_w]
            rfl
           refine take_ (i := 1) (N := some 41) (v := ?_) (a' := ?_) #[true, true, true, true, true, false, false, false, false] rfl rfl (take_ofW HT_.out HW_.out (by kernel_rfl)) (fun _ _ _ h => h) (Or.inl ⟨by rfl, ?_⟩) hHeld ?_ ?_
           rotate_left
           ·rintro w' ⟨s0, s1, s2, s3⟩
            go_simp
            with_reducible rfl
           rotate_left
           ·simp only [Act.put, List.setIfInBounds_toArray, List.set_cons_zero, List.set_cons_succ, i64_w, i32_w]
            rfl
           refine take_ (i := 5) (N := some 45) (v := ?_) (a' := ?_) #[true, true, true, true, true, true, false, false, false] rfl rfl (take_ofW HT_.out HW_.out (by kernel_rfl)) (fun _ _ _ h => h) (Or.inl ⟨by rfl, ?_⟩) hHeld ?_ ?_
           rotate_left
           ·rintro w' ⟨s0, s1, s2, s3⟩
            go_simp
            with_reducible rfl
           rotate_left
           ·simp only [Act.put, List.setIfInBounds_toArray, List.set_cons_zero, List.set_cons_succ, i64_w, i32_w]
            rfl
           refine join_ (σ := Nat) 1 #[true, true, true, true, true, true, true, true, false] (fun s_ => [(46, .agg #[.int .i64 t407, .string t408, .string t409, .int .i64 t410]), (8, .pointer (some ⟨s_, 0, none⟩))]) (fun s_ w' => (w'.cell? ⟨gb405, 0, none⟩ = some (u406000) ∧ w'.cell? ⟨gb405, 1, none⟩ = some (.string x406001_2) ∧ w'.cell? ⟨gb405, 2, none⟩ = some (.int .i64 0) ∧ w'.cell? (ad406.add (x7_2).toNat) = some (.int .i64 (rd l1 x7_2))) ∧ (Kd.R k99 99 w' w.heap.size (fun _ => True) u406000 x406000_2) ∧ (w'.heap[gb402]? = some (.cells #[.slice none 0 0, .string x403001_2, .int .i64 x403002_2] 97 (0, 0))) ∧ (w'.heap[gb405]? = some (.cells #[u406000, .string x406001_2, .int .i64 0] 97 (0, 0))) ∧ (w'.heap[s_]? = some (.cells #[.int .i64 0, .string (⟨#[]⟩ : ByteArray), .string (⟨#[]⟩ : ByteArray), .int .i64 0] 93 (0, 0))) ∧ (w.heap.size ≤ s_) ∧ (w.heap.size ≤ s_) ∧ (gb402 ≠ s_) ∧ (s_ ≠ gb402) ∧ (gb405 ≠ s_) ∧ (s_ ≠ gb405) ∧ (Below w.heap.size w w')) ?_ ?_
           rotate_left
           ·intro hCont
            refine two_ (i := 6) (j := 7) (Ni := some 46) (Nj := some 8) #[true, true, true, true, true, true, true, false, false] #[true, true, true, true, true, true, false, true, false] rfl rfl rfl rfl (two_of HT_.out (by kernel_rfl)) (by decide) (by decide) (fun K hK => ?_) (fun K hK => ?_)
            ·skip
             refine goes_ Tryd.func99 (by kernel_rfl) rfl #[.string x406001_2, .int .i64 (rd l1 x7_2)] (by rfl) rfl rfl (by (try simp only [List.map_toArray, List.map_cons, List.map_nil]); first | done | rfl | (simp only [List.length_drop, List.length_take]; rfl)) ?_
             with_reducible refine (caduceusref01_take.calls k2 x406001_2 (rd l1 x7_2) t407 t408 t409 t410 _ A18.out).mono ?_
             rintro e w22 ⟨rfl, hb⟩
             refine ⟨_, rfl, ?_⟩
             have n0_ := Aside0.mk (Kd.R_below (by (with_reducible repeat (first | apply Kd.R_alloc | apply Kd.R_drewN | apply Kd.R_drew)); exact HO_406000.out) hb)
             have n1_ := Aside0.mk (blk_below (g := gb402) (o := .cells #[.slice none 0 0, .string x403001_2, .int .i64 x403002_2] 97 (0, 0)) blkA hb)
             have n2_ := Aside0.mk (blk_below (g := gb405) (o := .cells #[u406000, .string x406001_2, .int .i64 0] 97 (0, 0)) blkA hb)
             have n3_ := Aside0.mk (below_step bwA hb)
             clear HO_406000
             clear BK402
             clear BK405
             clear HB
             have HO_406000 := n0_
             have BK402 := n1_
             have BK405 := n2_
             have HB := n3_
             clear n0_ n1_ n2_ n3_
             (try clear hb)
             (try clear hb2)
             (try clear hk)
             (try clear hi)
             refine hK.out _ _ ⟨(blk_cell BK405.out 0).trans rfl, (blk_cell BK405.out 1).trans rfl, (blk_cell BK405.out 2).trans rfl, ((HB.out.cell (World.block_lt_of_cell? w _ hw406_0)).trans hw406_0)⟩ (fun hHeld => ?_)
             clear hK K
             refine norm_ (a' := ?_) ?_ ?_
             rotate_left
             ·show Act.put _ (some 46) _ = _
              simp only [Act.put, List.setIfInBounds_toArray, List.set_cons_zero, List.set_cons_succ, i64_w, i32_w]
              rfl
             refine one_ (i := 7) (N := some 8) #[true, true, true, true, true, true, true, true, false] rfl rfl (one_of HT_.out (by kernel_rfl)) (by decide) (fun K hK => ?_)
             refine box_step ?hg (N := 8) ?hd (cs := #[.int .i64 0, .string (⟨#[]⟩ : ByteArray), .string (⟨#[]⟩ : ByteArray), .int .i64 0]) (t := 93) ?hr ?_; (case hd => rfl); (case hg => rfl); (case hr => first | (go_simp; done) | (go_simp; rfl))
             intro gb411 hg w23 hbox hb
             have n0_ := Aside0.mk (Kd.R_below (by (with_reducible repeat (first | apply Kd.R_alloc | apply Kd.R_drewN | apply Kd.R_drew)); exact HO_406000.out) hb)
             have n1_ := Aside0.mk (blk_below (g := gb402) (o := .cells #[.slice none 0 0, .string x403001_2, .int .i64 x403002_2] 97 (0, 0)) blkA hb)
             have n2_ := Aside0.mk (blk_below (g := gb405) (o := .cells #[u406000, .string x406001_2, .int .i64 0] 97 (0, 0)) blkA hb)
             have n3_ := Aside0.mk (below_step bwA hb)
             have n4_ := Aside0.mk (hbox)
             have n5_ := Aside0.mk ((by rw [hg]; exact (below_size bwA) : w.heap.size ≤ gb411))
             have n6_ := Aside0.mk ((by rw [hg]; exact (below_size bwA) : w.heap.size ≤ gb411))
             have n7_ := Aside0.mk ((by rw [hg]; exact Nat.ne_of_lt (blk_lt (g := gb402) (o := .cells #[.slice none 0 0, .string x403001_2, .int .i64 x403002_2] 97 (0, 0)) blkA) : gb402 ≠ gb411))
             have n8_ := Aside0.mk ((by rw [hg]; exact Nat.ne_of_gt (blk_lt (g := gb402) (o := .cells #[.slice none 0 0, .string x403001_2, .int .i64 x403002_2] 97 (0, 0)) blkA) : gb411 ≠ gb402))
             have n9_ := Aside0.mk ((by rw [hg]; exact Nat.ne_of_lt (blk_lt (g := gb405) (o := .cells #[u406000, .string x406001_2, .int .i64 0] 97 (0, 0)) blkA) : gb405 ≠ gb411))
             have n10_ := Aside0.mk ((by rw [hg]; exact Nat.ne_of_gt (blk_lt (g := gb405) (o := .cells #[u406000, .string x406001_2, .int .i64 0] 97 (0, 0)) blkA) : gb411 ≠ gb405))
             clear HO_406000
             clear BK402
             clear BK405
             clear HB
             have HO_406000 := n0_
             have BK402 := n1_
             have BK405 := n2_
             have HB := n3_
             have BK411 := n4_
             have GW411 := n5_
             have GE411 := n6_
             have NB402_411 := n7_
             have NB411_402 := n8_
             have NB405_411 := n9_
             have NB411_405 := n10_
             clear n0_ n1_ n2_ n3_ n4_ n5_ n6_ n7_ n8_ n9_ n10_
             clear hb hbox hg
             refine hK.out _ _ ⟨(blk_cell BK405.out 0).trans rfl, (blk_cell BK405.out 1).trans rfl, (blk_cell BK405.out 2).trans rfl, ((HB.out.cell (World.block_lt_of_cell? w _ hw406_0)).trans hw406_0)⟩ (fun hHeld => ?_)
             clear hK K
             refine norm_ (a' := ?_) ?_ ?_
             rotate_left
             ·show Act.put _ (some 8) _ = _
              simp only [Act.put, List.setIfInBounds_toArray, List.set_cons_zero, List.set_cons_succ, i64_w, i32_w]
              rfl
             exact norm_ (by simp only [putAll, Act.put, List.setIfInBounds_toArray, List.set_cons_zero, List.set_cons_succ]) (hCont (gb411) _ ⟨hHeld, (by (with_reducible repeat (first | apply Kd.R_alloc | apply Kd.R_drewN | apply Kd.R_drew)); exact HO_406000.out), blkA, blkA, blkA, GW411.out, GE411.out, NB402_411.out, NB411_402.out, NB405_411.out, NB411_405.out, bwA⟩)
            ·skip
             refine box_step ?hg (N := 8) ?hd (cs := #[.int .i64 0, .string (⟨#[]⟩ : ByteArray), .string (⟨#[]⟩ : ByteArray), .int .i64 0]) (t := 93) ?hr ?_; (case hd => rfl); (case hg => rfl); (case hr => first | (go_simp; done) | (go_simp; rfl))
             intro gb411 hg w22 hbox hb
             have n0_ := Aside0.mk (Kd.R_below (by (with_reducible repeat (first | apply Kd.R_alloc | apply Kd.R_drewN | apply Kd.R_drew)); exact HO_406000.out) hb)
             have n1_ := Aside0.mk (blk_below (g := gb402) (o := .cells #[.slice none 0 0, .string x403001_2, .int .i64 x403002_2] 97 (0, 0)) blkA hb)
             have n2_ := Aside0.mk (blk_below (g := gb405) (o := .cells #[u406000, .string x406001_2, .int .i64 0] 97 (0, 0)) blkA hb)
             have n3_ := Aside0.mk (below_step bwA hb)
             have n4_ := Aside0.mk (hbox)
             have n5_ := Aside0.mk ((by rw [hg]; exact (below_size bwA) : w.heap.size ≤ gb411))
             have n6_ := Aside0.mk ((by rw [hg]; exact (below_size bwA) : w.heap.size ≤ gb411))
             have n7_ := Aside0.mk ((by rw [hg]; exact Nat.ne_of_lt (blk_lt (g := gb402) (o := .cells #[.slice none 0 0, .string x403001_2, .int .i64 x403002_2] 97 (0, 0)) blkA) : gb402 ≠ gb411))
             have n8_ := Aside0.mk ((by rw [hg]; exact Nat.ne_of_gt (blk_lt (g := gb402) (o := .cells #[.slice none 0 0, .string x403001_2, .int .i64 x403002_2] 97 (0, 0)) blkA) : gb411 ≠ gb402))
             have n9_ := Aside0.mk ((by rw [hg]; exact Nat.ne_of_lt (blk_lt (g := gb405) (o := .cells #[u406000, .string x406001_2, .int .i64 0] 97 (0, 0)) blkA) : gb405 ≠ gb411))
             have n10_ := Aside0.mk ((by rw [hg]; exact Nat.ne_of_gt (blk_lt (g := gb405) (o := .cells #[u406000, .string x406001_2, .int .i64 0] 97 (0, 0)) blkA) : gb411 ≠ gb405))
             clear HO_406000
             clear BK402
             clear BK405
             clear HB
             have HO_406000 := n0_
             have BK402 := n1_
             have BK405 := n2_
             have HB := n3_
             have BK411 := n4_
             have GW411 := n5_
             have GE411 := n6_
             have NB402_411 := n7_
             have NB411_402 := n8_
             have NB405_411 := n9_
             have NB411_405 := n10_
             clear n0_ n1_ n2_ n3_ n4_ n5_ n6_ n7_ n8_ n9_ n10_
             clear hb hbox hg
             refine hK.out _ _ ⟨(blk_cell BK405.out 0).trans rfl, (blk_cell BK405.out 1).trans rfl, (blk_cell BK405.out 2).trans rfl, ((HB.out.cell (World.block_lt_of_cell? w _ hw406_0)).trans hw406_0)⟩ (fun hHeld => ?_)
             clear hK K
             refine norm_ (a' := ?_) ?_ ?_
             rotate_left
             ·show Act.put _ (some 8) _ = _
              simp only [Act.put, List.setIfInBounds_toArray, List.set_cons_zero, List.set_cons_succ, i64_w, i32_w]
              rfl
             refine one_ (i := 6) (N := some 46) #[true, true, true, true, true, true, true, true, false] rfl rfl (one_of HT_.out (by kernel_rfl)) (by decide) (fun K hK => ?_)
             refine goes_ Tryd.func99 (by kernel_rfl) rfl #[.string x406001_2, .int .i64 (rd l1 x7_2)] (by rfl) rfl rfl (by (try simp only [List.map_toArray, List.map_cons, List.map_nil]); first | done | rfl | (simp only [List.length_drop, List.length_take]; rfl)) ?_
             with_reducible refine (caduceusref01_take.calls k2 x406001_2 (rd l1 x7_2) t407 t408 t409 t410 _ A18.out).mono ?_
             rintro e w23 ⟨rfl, hb⟩
             refine ⟨_, rfl, ?_⟩
             have n0_ := Aside0.mk (Kd.R_below (by (with_reducible repeat (first | apply Kd.R_alloc | apply Kd.R_drewN | apply Kd.R_drew)); exact HO_406000.out) hb)
             have n1_ := Aside0.mk (blk_below (g := gb402) (o := .cells #[.slice none 0 0, .string x403001_2, .int .i64 x403002_2] 97 (0, 0)) blkA hb)
             have n2_ := Aside0.mk (blk_below (g := gb405) (o := .cells #[u406000, .string x406001_2, .int .i64 0] 97 (0, 0)) blkA hb)
             have n3_ := Aside0.mk (blk_below (g := gb411) (o := .cells #[.int .i64 0, .string (⟨#[]⟩ : ByteArray), .string (⟨#[]⟩ : ByteArray), .int .i64 0] 93 (0, 0)) blkA hb)
             have n4_ := Aside0.mk (below_step bwA hb)
             clear HO_406000
             clear BK402
             clear BK405
             clear BK411
             clear HB
             have HO_406000 := n0_
             have BK402 := n1_
             have BK405 := n2_
             have BK411 := n3_
             have HB := n4_
             clear n0_ n1_ n2_ n3_ n4_
             (try clear hb)
             (try clear hb2)
             (try clear hk)
             (try clear hi)
             refine hK.out _ _ ⟨(blk_cell BK405.out 0).trans rfl, (blk_cell BK405.out 1).trans rfl, (blk_cell BK405.out 2).trans rfl, ((HB.out.cell (World.block_lt_of_cell? w _ hw406_0)).trans hw406_0)⟩ (fun hHeld => ?_)
             clear hK K
             refine norm_ (a' := ?_) ?_ ?_
             rotate_left
             ·show Act.put _ (some 46) _ = _
              simp only [Act.put, List.setIfInBounds_toArray, List.set_cons_zero, List.set_cons_succ, i64_w, i32_w]
              rfl
             exact norm_ (by simp only [putAll, Act.put, List.setIfInBounds_toArray, List.set_cons_zero, List.set_cons_succ]) (hCont (gb411) _ ⟨hHeld, (by (with_reducible repeat (first | apply Kd.R_alloc | apply Kd.R_drewN | apply Kd.R_drew)); exact HO_406000.out), blkA, blkA, blkA, GW411.out, GE411.out, NB402_411.out, NB411_402.out, NB405_411.out, NB411_405.out, bwA⟩)
           rintro gb411 w24 ⟨hS_, h0_, h1_, h2_, h3_, h4_, h5_, h6_, h7_, h8_, h9_, h10_⟩
           have n0_ : Aside0 (Kd.R k99 99 w24 w.heap.size (fun _ => True) u406000 x406000_2) := ⟨h0_⟩
           have n1_ : Aside0 (w24.heap[gb402]? = some (.cells #[.slice none 0 0, .string x403001_2, .int .i64 x403002_2] 97 (0, 0))) := ⟨h1_⟩
           have n2_ : Aside0 (w24.heap[gb405]? = some (.cells #[u406000, .string x406001_2, .int .i64 0] 97 (0, 0))) := ⟨h2_⟩
           have n3_ : Aside0 (w24.heap[gb411]? = some (.cells #[.int .i64 0, .string (⟨#[]⟩ : ByteArray), .string (⟨#[]⟩ : ByteArray), .int .i64 0] 93 (0, 0))) := ⟨h3_⟩
           have n4_ : Aside0 (w.heap.size ≤ gb411) := ⟨h4_⟩
           have n5_ : Aside0 (w.heap.size ≤ gb411) := ⟨h5_⟩
           have n6_ : Aside0 (gb402 ≠ gb411) := ⟨h6_⟩
           have n7_ : Aside0 (gb411 ≠ gb402) := ⟨h7_⟩
           have n8_ : Aside0 (gb405 ≠ gb411) := ⟨h8_⟩
           have n9_ : Aside0 (gb411 ≠ gb405) := ⟨h9_⟩
           have n10_ : Aside0 (Below w.heap.size w w24) := ⟨h10_⟩
           clear HO_406000
           clear BK402
           clear BK405
           clear HB
           clear h0_ h1_ h2_ h3_ h4_ h5_ h6_ h7_ h8_ h9_ h10_
           have HO_406000 := n0_
           have BK402 := n1_
           have BK405 := n2_
           have BK411 := n3_
           have GW411 := n4_
           have GE411 := n5_
           have NB402_411 := n6_
           have NB411_402 := n7_
           have NB405_411 := n8_
           have NB411_405 := n9_
           have HB := n10_
           clear n0_ n1_ n2_ n3_ n4_ n5_ n6_ n7_ n8_ n9_ n10_
           have hHeld : w24.cell? ⟨gb405, 0, none⟩ = some (u406000) ∧ w24.cell? ⟨gb405, 1, none⟩ = some (.string x406001_2) ∧ w24.cell? ⟨gb405, 2, none⟩ = some (.int .i64 0) ∧ w24.cell? (ad406.add (x7_2).toNat) = some (.int .i64 (rd l1 x7_2)) := hS_
           refine norm_ (a' := ?_) ?_ ?_
           rotate_left
           ·simp only [putAll, Act.put, List.setIfInBounds_toArray, List.set_cons_zero, List.set_cons_succ]
            rfl
           refine one_ (i := 8) (N := none) #[true, true, true, true, true, true, true, true, true] rfl rfl (one_of HT_.out (by kernel_rfl)) (by decide) (fun K hK => ?_)
           have hs25 : w24.cell? ⟨gb411, 0, none⟩ = some (.int .i64 0) := (blk_cell BK411.out 0).trans rfl
           have hfs25 := blk_frozen BK411.out 0
           have hns25_0 := NB402_411.out
           have hns25_1 := NB405_411.out
           have hms25_0 := NB411_402.out
           have hms25_1 := NB411_405.out
           have hs26 : w24.cell? ⟨gb411, 1, none⟩ = some (.string (⟨#[]⟩ : ByteArray)) := (blk_cell BK411.out 1).trans rfl
           have hfs26 := blk_frozen BK411.out 1
           have hns26_0 := NB402_411.out
           have hns26_1 := NB405_411.out
           have hms26_0 := NB411_402.out
           have hms26_1 := NB411_405.out
           have hs27 : w24.cell? ⟨gb411, 2, none⟩ = some (.string (⟨#[]⟩ : ByteArray)) := (blk_cell BK411.out 2).trans rfl
           have hfs27 := blk_frozen BK411.out 2
           have hns27_0 := NB402_411.out
           have hns27_1 := NB405_411.out
           have hms27_0 := NB411_402.out
           have hms27_1 := NB411_405.out
           have hs28 : w24.cell? ⟨gb411, 3, none⟩ = some (.int .i64 0) := (blk_cell BK411.out 3).trans rfl
           have hfs28 := blk_frozen BK411.out 3
           have hns28_0 := NB402_411.out
           have hns28_1 := NB405_411.out
           have hms28_0 := NB411_402.out
           have hms28_1 := NB411_405.out
           refine skip_ (w1 := ?_) (by rfl) rfl ?_ ?_
           rotate_left
           ·go_simp
            rfl
           refine hK.out _ _ ⟨far4 NB405_411.out hHeld.1, far4 NB405_411.out hHeld.2.1, far4 NB405_411.out hHeld.2.2.1, far4 (by first | exact Nat.ne_of_lt (Nat.lt_of_lt_of_le (by have := World.block_lt_of_cell? _ _ hw406_0; first | rwa [add_block] at this | exact this) GW411.out) | (rw [add_block]; exact Nat.ne_of_lt (Nat.lt_of_lt_of_le (by have := World.block_lt_of_cell? _ _ hw406_0; first | rwa [add_block] at this | exact this) GW411.out)) | (show (Addr.add _ _).block ≠ _; rw [add_block]; exact Nat.ne_of_lt (Nat.lt_of_lt_of_le (by have := World.block_lt_of_cell? _ _ hw406_0; first | rwa [add_block] at this | exact this) GW411.out)) | (dsimp only; exact Nat.ne_of_lt (Nat.lt_of_lt_of_le (by have := World.block_lt_of_cell? _ _ hw406_0; first | rwa [add_block] at this | exact this) GW411.out))) hHeld.2.2.2⟩ (fun hHeld => ?_)
           clear hK K
           refine done_ (done_of HT_.out (by kernel_rfl)) ?_
           have hnb29 := NB411_402.out
           have hnc29 := NB402_411.out
           have hnb30 := NB411_405.out
           have hnc30 := NB405_411.out
           have hcz31_0 : w24.cell? ⟨gb411, 0, none⟩ = some (.int .i64 0) := (blk_cell BK411.out 0).trans rfl
           have hcz31_1 : w24.cell? ⟨gb411, 1, none⟩ = some (.string (⟨#[]⟩ : ByteArray)) := (blk_cell BK411.out 1).trans rfl
           have hcz31_2 : w24.cell? ⟨gb411, 2, none⟩ = some (.string (⟨#[]⟩ : ByteArray)) := (blk_cell BK411.out 2).trans rfl
           have hcz31_3 : w24.cell? ⟨gb411, 3, none⟩ = some (.int .i64 0) := (blk_cell BK411.out 3).trans rfl
           have hfz31_0 := blk_frozen BK411.out 0
           have hfz31_1 := blk_frozen BK411.out 1
           have hfz31_2 := blk_frozen BK411.out 2
           have hfz31_3 := blk_frozen BK411.out 3
           try go_wp2
           have n0_ : Aside0 (Kd.R k99 99 ((((w24.setCell ⟨gb411, 0, none⟩ (.int .i64 t407)).setCell ⟨gb411, 1, none⟩ (.string t408)).setCell ⟨gb411, 2, none⟩ (.string t409)).setCell ⟨gb411, 3, none⟩ (.int .i64 t410)) w.heap.size (fun _ => True) u406000 x406000_2) := ⟨by (with_reducible repeat (first | apply Kd.R_alloc | apply Kd.R_drewN | apply Kd.R_drew)); exact Kd.R_mono (Kd.R_far (p := ⟨gb411, 3, none⟩) (Kd.R_far (p := ⟨gb411, 2, none⟩) (Kd.R_far (p := ⟨gb411, 1, none⟩) (Kd.R_far (p := ⟨gb411, 0, none⟩) (Kd.R_types HO_406000.out BK411.out (by decide)) (fun _ hk => hk.2) (.int .i64 t407)) (fun _ hk => hk.2) (.string t408)) (fun _ hk => hk.2) (.string t409)) (fun _ hk => hk.2) (.int .i64 t410)) (fun _ hk => trivial)⟩
           have n1_ : Aside0 (((((w24.setCell ⟨gb411, 0, none⟩ (.int .i64 t407)).setCell ⟨gb411, 1, none⟩ (.string t408)).setCell ⟨gb411, 2, none⟩ (.string t409)).setCell ⟨gb411, 3, none⟩ (.int .i64 t410)).heap[gb402]? = some (.cells #[.slice none 0 0, .string x403001_2, .int .i64 x403002_2] 97 (0, 0))) := ⟨by (with_reducible repeat (first | refine blk_drewN ?_ _ | refine blk_drew ?_ | refine blk_alloc ?_ _)); refine blk_far ?_ NB402_411.out _; (with_reducible repeat (first | refine blk_drewN ?_ _ | refine blk_drew ?_ | refine blk_alloc ?_ _)); refine blk_far ?_ NB402_411.out _; (with_reducible repeat (first | refine blk_drewN ?_ _ | refine blk_drew ?_ | refine blk_alloc ?_ _)); refine blk_far ?_ NB402_411.out _; (with_reducible repeat (first | refine blk_drewN ?_ _ | refine blk_drew ?_ | refine blk_alloc ?_ _)); refine blk_far ?_ NB402_411.out _; (with_reducible repeat (first | refine blk_drewN ?_ _ | refine blk_drew ?_ | refine blk_alloc ?_ _)); exact BK402.out⟩
           have n2_ : Aside0 (((((w24.setCell ⟨gb411, 0, none⟩ (.int .i64 t407)).setCell ⟨gb411, 1, none⟩ (.string t408)).setCell ⟨gb411, 2, none⟩ (.string t409)).setCell ⟨gb411, 3, none⟩ (.int .i64 t410)).heap[gb405]? = some (.cells #[u406000, .string x406001_2, .int .i64 0] 97 (0, 0))) := ⟨by (with_reducible repeat (first | refine blk_drewN ?_ _ | refine blk_drew ?_ | refine blk_alloc ?_ _)); refine blk_far ?_ NB405_411.out _; (with_reducible repeat (first | refine blk_drewN ?_ _ | refine blk_drew ?_ | refine blk_alloc ?_ _)); refine blk_far ?_ NB405_411.out _; (with_reducible repeat (first | refine blk_drewN ?_ _ | refine blk_drew ?_ | refine blk_alloc ?_ _)); refine blk_far ?_ NB405_411.out _; (with_reducible repeat (first | refine blk_drewN ?_ _ | refine blk_drew ?_ | refine blk_alloc ?_ _)); refine blk_far ?_ NB405_411.out _; (with_reducible repeat (first | refine blk_drewN ?_ _ | refine blk_drew ?_ | refine blk_alloc ?_ _)); exact BK405.out⟩
           have n3_ : Aside0 (((((w24.setCell ⟨gb411, 0, none⟩ (.int .i64 t407)).setCell ⟨gb411, 1, none⟩ (.string t408)).setCell ⟨gb411, 2, none⟩ (.string t409)).setCell ⟨gb411, 3, none⟩ (.int .i64 t410)).heap[gb411]? = some (.cells #[.int .i64 t407, .string t408, .string t409, .int .i64 t410] 93 (0, 0))) := ⟨by (with_reducible repeat (first | refine blk_drewN ?_ _ | refine blk_drew ?_ | refine blk_alloc ?_ _)); refine blk_put (cs := #[.int .i64 t407, .string t408, .string t409, .int .i64 0]) ?_ 3 _ rfl; (with_reducible repeat (first | refine blk_drewN ?_ _ | refine blk_drew ?_ | refine blk_alloc ?_ _)); refine blk_put (cs := #[.int .i64 t407, .string t408, .string (⟨#[]⟩ : ByteArray), .int .i64 0]) ?_ 2 _ rfl; (with_reducible repeat (first | refine blk_drewN ?_ _ | refine blk_drew ?_ | refine blk_alloc ?_ _)); refine blk_put (cs := #[.int .i64 t407, .string (⟨#[]⟩ : ByteArray), .string (⟨#[]⟩ : ByteArray), .int .i64 0]) ?_ 1 _ rfl; (with_reducible repeat (first | refine blk_drewN ?_ _ | refine blk_drew ?_ | refine blk_alloc ?_ _)); refine blk_put (cs := #[.int .i64 0, .string (⟨#[]⟩ : ByteArray), .string (⟨#[]⟩ : ByteArray), .int .i64 0]) ?_ 0 _ rfl; (with_reducible repeat (first | refine blk_drewN ?_ _ | refine blk_drew ?_ | refine blk_alloc ?_ _)); exact BK411.out⟩
           have n4_ : Aside0 (Below w.heap.size w ((((w24.setCell ⟨gb411, 0, none⟩ (.int .i64 t407)).setCell ⟨gb411, 1, none⟩ (.string t408)).setCell ⟨gb411, 2, none⟩ (.string t409)).setCell ⟨gb411, 3, none⟩ (.int .i64 t410))) := ⟨by repeat (first | (with_reducible first | exact HB.out | apply below_alloc | apply pw_below_drewN | apply below_drew1 | refine below_set ?_ GE402.out | refine below_set ?_ GE405.out | refine below_set ?_ GE411.out) | exact HB.out)⟩
           (try clear HO_406000)
           (try clear BK402)
           (try clear BK405)
           (try clear BK411)
           (try clear HB)
           generalize ((((w24.setCell ⟨gb411, 0, none⟩ (.int .i64 t407)).setCell ⟨gb411, 1, none⟩ (.string t408)).setCell ⟨gb411, 2, none⟩ (.string t409)).setCell ⟨gb411, 3, none⟩ (.int .i64 t410)) = w32 at n0_ n1_ n2_ n3_ n4_ ⊢
           have HO_406000 := n0_
           have BK402 := n1_
           have BK405 := n2_
           have BK411 := n3_
           have HB := n4_
           clear n0_ n1_ n2_ n3_ n4_
           have n0_ := Aside0.mk (Kd.R_drew HO_406000.out)
           have n1_ := Aside0.mk (blk_drew BK402.out)
           have n2_ := Aside0.mk (blk_drew BK405.out)
           have n3_ := Aside0.mk (blk_drew BK411.out)
           have n4_ := Aside0.mk (below_drew1 HB.out)
           clear HO_406000
           clear BK402
           clear BK405
           clear BK411
           clear HB
           have HO_406000 := n0_
           have BK402 := n1_
           have BK405 := n2_
           have BK411 := n3_
           have HB := n4_
           clear n0_ n1_ n2_ n3_ n4_
           have p412 : 0 ≤ (x7_2 : Int) := of_decide_eq_true (by first | (with_reducible assumption) | assumption)
           have q412 : x7_2 < (l1.length : Int) := of_decide_eq_true (by first | (with_reducible assumption) | assumption)
           obtain ⟨ad412, e412, hx412_0⟩ := Kd.at_int HR1.out x7_2 p412 q412
           have hw412_0 := hx412_0
           obtain rfl : ad406 = ad412 := (by injection e412)
           replace hx412_0 := (HB.out.cell (World.block_lt_of_cell? w _ hx412_0)).trans hx412_0
           replace p412 := eq_true p412
           replace q412 := eq_true q412
           refine start_ (n := 15) (S := fun w' => w'.cell? ⟨gb405, 0, none⟩ = some (u406000) ∧ w'.cell? ⟨gb405, 1, none⟩ = some (.string x406001_2) ∧ w'.cell? ⟨gb405, 2, none⟩ = some (.int .i64 0) ∧ w'.cell? ⟨gb411, 0, none⟩ = some (.int .i64 t407) ∧ w'.cell? ⟨gb411, 1, none⟩ = some (.string t408) ∧ w'.cell? ⟨gb411, 2, none⟩ = some (.string t409) ∧ w'.cell? ⟨gb411, 3, none⟩ = some (.int .i64 t410) ∧ w'.cell? (ad406.add (x7_2).toNat) = some (.int .i64 (rd l1 x7_2))) (ds := [14]) #[false, false, false, false, false, false, false, false, false, false, false, false, false, false, false] (by kernel_rfl) rfl rfl ⟨(blk_cell BK405.out 0).trans rfl, (blk_cell BK405.out 1).trans rfl, (blk_cell BK405.out 2).trans rfl, (blk_cell BK411.out 0).trans rfl, (blk_cell BK411.out 1).trans rfl, (blk_cell BK411.out 2).trans rfl, (blk_cell BK411.out 3).trans rfl, ((HB.out.cell (World.block_lt_of_cell? w _ hw412_0)).trans hw412_0)⟩ (fun hHeld => ?_); refine with_tabW caduceusref01_Take.tab15 caduceusref01_Take.bits15 (fun HT_ HW_ => ?_)
           generalize w32.drew = w33 at HO_406000 BK402 BK405 BK411 HB hx412_0 hHeld ⊢
           refine pure_ (i := 0) (N := some 53) (v := ?_) (a' := ?_) #[true, false, false, false, false, false, false, false, false, false, false, false, false, false, false] rfl rfl (any_of HT_.out (by kernel_rfl)) (fun _ _ _ h => h) (Or.inl ⟨by rfl, ?_⟩) ?_ ?_
           rotate_left
           ·intro w'
            go_simp
            with_reducible rfl
           rotate_left
           ·simp only [Act.put, List.setIfInBounds_toArray, List.set_cons_zero, List.set_cons_succ, i64_w, i32_w]
            rfl
           refine pure_ (i := 2) (N := some 55) (v := ?_) (a' := ?_) #[true, false, true, false, false, false, false, false, false, false, false, false, false, false, false] rfl rfl (any_of HT_.out (by kernel_rfl)) (fun _ _ _ h => h) (Or.inl ⟨by rfl, ?_⟩) ?_ ?_
           rotate_left
           ·intro w'
            go_simp
            with_reducible rfl
           rotate_left
           ·simp only [Act.put, List.setIfInBounds_toArray, List.set_cons_zero, List.set_cons_succ, i64_w, i32_w]
            rfl
           refine pure_ (i := 3) (N := some 56) (v := ?_) (a' := ?_) #[true, false, true, true, false, false, false, false, false, false, false, false, false, false, false] rfl rfl (any_of HT_.out (by kernel_rfl)) (fun _ _ _ h => h) (Or.inl ⟨by rfl, ?_⟩) ?_ ?_
           rotate_left
           ·intro w'
            go_simp
            with_reducible rfl
           rotate_left
           ·simp only [Act.put, List.setIfInBounds_toArray, List.set_cons_zero, List.set_cons_succ, i64_w, i32_w]
            rfl
           refine pure_ (i := 4) (N := some 57) (v := ?_) (a' := ?_) #[true, false, true, true, true, false, false, false, false, false, false, false, false, false, false] rfl rfl (any_of HT_.out (by kernel_rfl)) (fun _ _ _ h => h) (Or.inl ⟨by rfl, ?_⟩) ?_ ?_
           rotate_left
           ·intro w'
            go_simp
            with_reducible rfl
           rotate_left
           ·simp only [Act.put, List.setIfInBounds_toArray, List.set_cons_zero, List.set_cons_succ, i64_w, i32_w]
            rfl
           refine pure_ (i := 6) (N := some 59) (v := ?_) (a' := ?_) #[true, false, true, true, true, false, true, false, false, false, false, false, false, false, false] rfl rfl (any_of HT_.out (by kernel_rfl)) (fun _ _ _ h => h) (Or.inl ⟨by rfl, ?_⟩) ?_ ?_
           rotate_left
           ·intro w'
            go_simp
            with_reducible rfl
           rotate_left
           ·simp only [Act.put, List.setIfInBounds_toArray, List.set_cons_zero, List.set_cons_succ, i64_w, i32_w]
            rfl
           refine pure_ (i := 8) (N := some 61) (v := ?_) (a' := ?_) #[true, false, true, true, true, false, true, false, true, false, false, false, false, false, false] rfl rfl (any_of HT_.out (by kernel_rfl)) (fun _ _ _ h => h) (Or.inl ⟨by rfl, ?_⟩) ?_ ?_
           rotate_left
           ·intro w'
            go_simp
            with_reducible rfl
           rotate_left
           ·simp only [Act.put, List.setIfInBounds_toArray, List.set_cons_zero, List.set_cons_succ, i64_w, i32_w]
            rfl
           refine take_ (i := 1) (N := some 54) (v := ?_) (a' := ?_) #[true, true, true, true, true, false, true, false, true, false, false, false, false, false, false] rfl rfl (take_ofW HT_.out HW_.out (by kernel_rfl)) (fun _ _ _ h => h) (Or.inl ⟨by rfl, ?_⟩) hHeld ?_ ?_
           rotate_left
           ·rintro w' ⟨s0, s1, s2, s3, s4, s5, s6, s7⟩
            go_simp
            with_reducible rfl
           rotate_left
           ·simp only [Act.put, List.setIfInBounds_toArray, List.set_cons_zero, List.set_cons_succ, i64_w, i32_w]
            rfl
           refine take_ (i := 5) (N := some 58) (v := ?_) (a' := ?_) #[true, true, true, true, true, true, true, false, true, false, false, false, false, false, false] rfl rfl (take_ofW HT_.out HW_.out (by kernel_rfl)) (fun _ _ _ h => h) (Or.inl ⟨by rfl, ?_⟩) hHeld ?_ ?_
           rotate_left
           ·rintro w' ⟨s0, s1, s2, s3, s4, s5, s6, s7⟩
            go_simp
            with_reducible rfl
           rotate_left
           ·simp only [Act.put, List.setIfInBounds_toArray, List.set_cons_zero, List.set_cons_succ, i64_w, i32_w]
            rfl
           refine take_ (i := 7) (N := some 60) (v := ?_) (a' := ?_) #[true, true, true, true, true, true, true, true, true, false, false, false, false, false, false] rfl rfl (take_ofW HT_.out HW_.out (by kernel_rfl)) (fun _ _ _ h => h) (Or.inl ⟨by rfl, ?_⟩) hHeld ?_ ?_
           rotate_left
           ·rintro w' ⟨s0, s1, s2, s3, s4, s5, s6, s7⟩
            go_simp
            with_reducible rfl
           rotate_left
           ·simp only [Act.put, List.setIfInBounds_toArray, List.set_cons_zero, List.set_cons_succ, i64_w, i32_w]
            rfl
           refine take_ (i := 9) (N := some 62) (v := ?_) (a' := ?_) #[true, true, true, true, true, true, true, true, true, true, false, false, false, false, false] rfl rfl (take_ofW HT_.out HW_.out (by kernel_rfl)) (fun _ _ _ h => h) (Or.inl ⟨by rfl, ?_⟩) hHeld ?_ ?_
           rotate_left
           ·rintro w' ⟨s0, s1, s2, s3, s4, s5, s6, s7⟩
            go_simp
            with_reducible rfl
           rotate_left
           ·simp only [Act.put, List.setIfInBounds_toArray, List.set_cons_zero, List.set_cons_succ, i64_w, i32_w]
            rfl
           refine pure_ (i := 10) (N := some 63) (v := ?_) (a' := ?_) #[true, true, true, true, true, true, true, true, true, true, true, false, false, false, false] rfl rfl (any_of HT_.out (by kernel_rfl)) (fun _ _ _ h => h) (Or.inl ⟨by rfl, ?_⟩) ?_ ?_
           rotate_left
           ·intro w'
            go_simp
            with_reducible rfl
           rotate_left
           ·simp only [Act.put, List.setIfInBounds_toArray, List.set_cons_zero, List.set_cons_succ, i64_w, i32_w]
            rfl
           refine one_ (i := 11) (N := some 64) #[true, true, true, true, true, true, true, true, true, true, true, true, false, false, false] rfl rfl (one_of HT_.out (by kernel_rfl)) (by decide) (fun K hK => ?_)
           refine value_ (w1 := ?_) (v := ?_) (by rfl) rfl ?_ ?_
           rotate_left 2
           ·go_simp
            constructor
            ·rfl
            ·rfl
           refine hK.out _ _ ⟨(blk_cell (blk_alloc BK405.out _) 0).trans rfl, (blk_cell (blk_alloc BK405.out _) 1).trans rfl, (blk_cell (blk_alloc BK405.out _) 2).trans rfl, (blk_cell (blk_alloc BK411.out _) 0).trans rfl, (blk_cell (blk_alloc BK411.out _) 1).trans rfl, (blk_cell (blk_alloc BK411.out _) 2).trans rfl, (blk_cell (blk_alloc BK411.out _) 3).trans rfl, (World.cell?_alloc_lt _ _ _ (World.block_lt_of_cell? _ _ (((HB.out.cell (World.block_lt_of_cell? w _ hw412_0)).trans hw412_0)))).trans (((HB.out.cell (World.block_lt_of_cell? w _ hw412_0)).trans hw412_0))⟩ (fun hHeld => ?_)
           clear hK K
           refine norm_ (a' := ?_) ?_ ?_
           rotate_left
           ·show Act.put _ (some 64) _ = _
            simp only [Act.put, List.setIfInBounds_toArray, List.set_cons_zero, List.set_cons_succ, i64_w, i32_w]
            rfl
           refine one_ (i := 12) (N := some 65) #[true, true, true, true, true, true, true, true, true, true, true, true, true, false, false] rfl rfl (one_of HT_.out (by kernel_rfl)) (by decide) (fun K hK => ?_)
           refine Kd.R_append_step k99 (w0 := w) w.heap.size (by rfl) (.tmp 54) (.tmp 64) 95 99 (.agg #[(.int .i64 0), (.int .i64 0), (.string ⟨#[]⟩)]) 32 rfl Tryd.underlying95 info99 rfl (by decide) (by omega) u406000 x406000_2 (⟨rd l1 x7_2, t407, t408⟩ : S99) [.int .i64 (rd l1 x7_2), .int .i64 t407, .string t408] (fun _ => True) (fun _ => False) rfl rfl ?aP (fun _ hk => hk.elim) ?aF ?aO ?aB ?aS ?aL ?_
           (case aP => exact k99_mkM _ _ _ (⟨rd l1 x7_2, t407, t408⟩ : S99))
           (case aB => exact bwA)
           (case aF => exact (fun _ _ => trivial))
           (case aO => exact (by (with_reducible repeat (first | apply Kd.R_alloc | apply Kd.R_drewN | apply Kd.R_drew)); exact HO_406000.out))
           (case aS => exact (below_size bwA))
           (case aL => have := LMc20.out; omega)
           intro v414 w34 ho hb hg hat
           rw [← Ny413.out] at ho
           have n0_ := Aside0.mk (blk_grown (g := gb402) (o := .cells #[.slice none 0 0, .string x403001_2, .int .i64 x403002_2] 97 (0, 0)) blkA hg (Kd.R_ne HO_406000.out BK402.out (by decide)))
           have n1_ := Aside0.mk (blk_grown (g := gb405) (o := .cells #[u406000, .string x406001_2, .int .i64 0] 97 (0, 0)) blkA hg (Kd.R_ne HO_406000.out BK405.out (by decide)))
           have n2_ := Aside0.mk (blk_grown (g := gb411) (o := .cells #[.int .i64 t407, .string t408, .string t409, .int .i64 t410] 93 (0, 0)) blkA hg (Kd.R_ne HO_406000.out BK411.out (by decide)))
           have n3_ := Aside0.mk (hb)
           have n4_ := Aside0.mk (ho)
           clear BK402
           clear BK405
           clear BK411
           clear HB
           clear HO_406000
           have BK402 := n0_
           have BK405 := n1_
           have BK411 := n2_
           have HB := n3_
           have HO415 := n4_
           clear n0_ n1_ n2_ n3_ n4_
           clear ho hb hg hat
           obtain ⟨Ao35, co35, eo35⟩ := Kd.R_slice HO415.out
           (first | subst eo35 | (injection eo35 with f1_ f2_ f3_; have f4_ := f1_.symm; have f5_ := f3_.symm; clear f1_ f2_ f3_; subst f4_; subst f5_))
           refine hK.out _ _ ⟨(blk_cell BK405.out 0).trans rfl, (blk_cell BK405.out 1).trans rfl, (blk_cell BK405.out 2).trans rfl, (blk_cell BK411.out 0).trans rfl, (blk_cell BK411.out 1).trans rfl, (blk_cell BK411.out 2).trans rfl, (blk_cell BK411.out 3).trans rfl, ((HB.out.cell (World.block_lt_of_cell? w _ hw412_0)).trans hw412_0)⟩ (fun hHeld => ?_)
           clear hK K
           refine norm_ (a' := ?_) ?_ ?_
           rotate_left
           ·show Act.put _ (some 65) _ = _
            simp only [Act.put, List.setIfInBounds_toArray, List.set_cons_zero, List.set_cons_succ, i64_w, i32_w]
            rfl
           refine pure_ (i := 13) (N := some 66) (v := ?_) (a' := ?_) #[true, true, true, true, true, true, true, true, true, true, true, true, true, true, false] rfl rfl (any_of HT_.out (by kernel_rfl)) (fun _ _ _ h => h) (Or.inl ⟨by rfl, ?_⟩) ?_ ?_
           rotate_left
           ·intro w'
            go_simp
            with_reducible rfl
           rotate_left
           ·simp only [Act.put, List.setIfInBounds_toArray, List.set_cons_zero, List.set_cons_succ, i64_w, i32_w]
            rfl
           refine last_ (i := 14) (N := none) #[true, true, true, true, true, true, true, true, true, true, true, true, true, true, true] rfl rfl (one_of HT_.out (by kernel_rfl)) (by decide) (fun K hK => ?_)
           have hs36 : w34.cell? ⟨gb405, 0, none⟩ = some (u406000) := (blk_cell BK405.out 0).trans rfl
           have hfs36 := blk_frozen BK405.out 0
           have hns36_0 := NB402_405.out
           have hns36_2 := NB411_405.out
           have hms36_0 := NB405_402.out
           have hms36_2 := NB405_411.out
           refine skip_ (w1 := ?_) (by rfl) rfl ?_ ?_
           rotate_left
           ·go_simp
            rfl
           refine hK.out _ _ ?_
           clear hK K
           refine done_ (done_of HT_.out (by kernel_rfl)) ?_
           have hcz37_0 : w34.cell? ⟨gb411, 0, none⟩ = some (.int .i64 t407) := (blk_cell BK411.out 0).trans rfl
           have hcz37_1 : w34.cell? ⟨gb411, 1, none⟩ = some (.string t408) := (blk_cell BK411.out 1).trans rfl
           have hcz37_2 : w34.cell? ⟨gb411, 2, none⟩ = some (.string t409) := (blk_cell BK411.out 2).trans rfl
           have hcz37_3 : w34.cell? ⟨gb411, 3, none⟩ = some (.int .i64 t410) := (blk_cell BK411.out 3).trans rfl
           have hfz37_0 := blk_frozen BK411.out 0
           have hfz37_1 := blk_frozen BK411.out 1
           have hfz37_2 := blk_frozen BK411.out 2
           have hfz37_3 := blk_frozen BK411.out 3
           have hnb38 := NB405_402.out
           have hnc38 := NB402_405.out
           have hcz39_0 : w34.cell? ⟨gb405, 0, none⟩ = some (u406000) := (blk_cell BK405.out 0).trans rfl
           have hcz39_1 : w34.cell? ⟨gb405, 1, none⟩ = some (.string x406001_2) := (blk_cell BK405.out 1).trans rfl
           have hcz39_2 : w34.cell? ⟨gb405, 2, none⟩ = some (.int .i64 0) := (blk_cell BK405.out 2).trans rfl
           have hfz39_0 := blk_frozen BK405.out 0
           have hfz39_1 := blk_frozen BK405.out 1
           have hfz39_2 := blk_frozen BK405.out 2
           try go_wp2
           go_roundg k2
           case measure => have := HK1.out; have := HK2.out; omega
           case rel => exact ⟨(wrap64 (x7_2 + 1)), (x403001_2), (x403002_2), (y413), (t409), (.slice Ao35 y413.length co35), (by first | rfl | (simp; done) | (simp [*]; done)), H', ⟨by have := HK1.out; have := HK2.out; omega⟩, ⟨by (with_reducible repeat (first | apply Kd.R_alloc | apply Kd.R_drewN | apply Kd.R_drew)); exact Kd.R_mono (Kd.R_far (p := ⟨gb405, 1, none⟩) (Kd.R_far (p := ⟨gb405, 0, none⟩) (Kd.R_types HO415.out BK405.out (by decide)) (fun _ hk => hk.2) (.slice Ao35 y413.length co35)) (fun _ hk => hk.2) (.string t409)) (fun _ hk => trivial)⟩, ⟨by (with_reducible repeat (first | refine blk_drewN ?_ _ | refine blk_drew ?_ | refine blk_alloc ?_ _)); refine blk_far ?_ NB402_405.out _; (with_reducible repeat (first | refine blk_drewN ?_ _ | refine blk_drew ?_ | refine blk_alloc ?_ _)); refine blk_far ?_ NB402_405.out _; (with_reducible repeat (first | refine blk_drewN ?_ _ | refine blk_drew ?_ | refine blk_alloc ?_ _)); exact BK402.out⟩, ⟨by (with_reducible repeat (first | refine blk_drewN ?_ _ | refine blk_drew ?_ | refine blk_alloc ?_ _)); refine blk_put (cs := #[.slice Ao35 y413.length co35, .string x406001_2, .int .i64 0]) ?_ 1 _ rfl; (with_reducible repeat (first | refine blk_drewN ?_ _ | refine blk_drew ?_ | refine blk_alloc ?_ _)); refine blk_put (cs := #[u406000, .string x406001_2, .int .i64 0]) ?_ 0 _ rfl; (with_reducible repeat (first | refine blk_drewN ?_ _ | refine blk_drew ?_ | refine blk_alloc ?_ _)); exact BK405.out⟩, ⟨by repeat (first | (with_reducible first | exact HB.out | apply below_alloc | apply pw_below_drewN | apply below_drew1 | refine below_set ?_ GE402.out | refine below_set ?_ GE405.out | refine below_set ?_ GE411.out) | exact HB.out)⟩⟩
          ·rw [if_neg c20] at H
           exact absurd H (by simp)
         ·rw [if_neg c19] at H
          have c19b0 : (t410 == 0) = false := beq_eq_false_iff_ne.mpr c19
          have c19b1 : (t410 != 0) = true := bne_iff_ne.mpr c19
          simp only [Option.some.injEq, Prod.mk.injEq] at H
          obtain ⟨rfl, rfl, rfl⟩ := H
          try go_wp2
          have n0_ := Aside0.mk (Kd.R_drew HO_406000.out)
          have n1_ := Aside0.mk (blk_drew BK402.out)
          have n2_ := Aside0.mk (blk_drew BK405.out)
          have n3_ := Aside0.mk (below_drew1 HB.out)
          clear HO_406000
          clear BK402
          clear BK405
          clear HB
          have HO_406000 := n0_
          have BK402 := n1_
          have BK405 := n2_
          have HB := n3_
          clear n0_ n1_ n2_ n3_
          have p406 : 0 ≤ (x7_2 : Int) := of_decide_eq_true (by first | (with_reducible assumption) | assumption)
          have q406 : x7_2 < (l1.length : Int) := of_decide_eq_true (by first | (with_reducible assumption) | assumption)
          obtain ⟨ad406, e406, hx406_0⟩ := Kd.at_int HR1.out x7_2 p406 q406
          have hw406_0 := hx406_0
          cases e406
          replace hx406_0 := (HB.out.cell (World.block_lt_of_cell? w _ hx406_0)).trans hx406_0
          replace p406 := eq_true p406
          replace q406 := eq_true q406
          refine start_ (n := 9) (S := fun w' => w'.cell? ⟨gb405, 0, none⟩ = some (u406000) ∧ w'.cell? ⟨gb405, 1, none⟩ = some (.string x406001_2) ∧ w'.cell? ⟨gb405, 2, none⟩ = some (.int .i64 0) ∧ w'.cell? (ad406.add (x7_2).toNat) = some (.int .i64 (rd l1 x7_2))) (ds := []) #[false, false, false, false, false, false, false, false, false] (by kernel_rfl) rfl rfl ⟨(blk_cell BK405.out 0).trans rfl, (blk_cell BK405.out 1).trans rfl, (blk_cell BK405.out 2).trans rfl, ((HB.out.cell (World.block_lt_of_cell? w _ hw406_0)).trans hw406_0)⟩ (fun hHeld => ?_); refine with_tabW caduceusref01_Take.tab12 caduceusref01_Take.bits12 (fun HT_ HW_ => ?_)
          generalize wr.drew = w40 at HO_406000 BK402 BK405 HB hx406_0 hHeld ⊢
          refine pure_ (i := 0) (N := some 40) (v := ?_) (a' := ?_) #[true, false, false, false, false, false, false, false, false] rfl rfl (any_of HT_.out (by kernel_rfl)) (fun _ _ _ h => h) (Or.inl ⟨by rfl, ?_⟩) ?_ ?_
          rotate_left
          ·intro w'
           go_simp
           with_reducible rfl
          rotate_left
          ·simp only [Act.put, List.setIfInBounds_toArray, List.set_cons_zero, List.set_cons_succ, i64_w, i32_w]
           rfl
          refine pure_ (i := 2) (N := some 42) (v := ?_) (a' := ?_) #[true, false, true, false, false, false, false, false, false] rfl rfl (any_of HT_.out (by kernel_rfl)) (fun _ _ _ h => h) (Or.inl ⟨by rfl, ?_⟩) ?_ ?_
          rotate_left
          ·intro w'
           go_simp
           with_reducible rfl
          rotate_left
          ·simp only [Act.put, List.setIfInBounds_toArray, List.set_cons_zero, List.set_cons_succ, i64_w, i32_w]
           rfl
          refine pure_ (i := 3) (N := some 43) (v := ?_) (a' := ?_) #[true, false, true, true, false, false, false, false, false] rfl rfl (any_of HT_.out (by kernel_rfl)) (fun _ _ _ h => h) (Or.inl ⟨by rfl, ?_⟩) ?_ ?_
          rotate_left
          ·intro w'
           go_simp
           with_reducible rfl
          rotate_left
          ·simp only [Act.put, List.setIfInBounds_toArray, List.set_cons_zero, List.set_cons_succ, i64_w, i32_w]
           rfl
          refine pure_ (i := 4) (N := some 44) (v := ?_) (a' := ?_) #[true, false, true, true, true, false, false, false, false] rfl rfl (any_of HT_.out (by kernel_rfl)) (fun _ _ _ h => h) (Or.inl ⟨by rfl, ?_⟩) ?_ ?_
          rotate_left
          ·intro w'
           go_simp
           with_reducible rfl
          rotate_left
          ·simp only [Act.put, List.setIfInBounds_toArray, List.set_cons_zero, List.set_cons_succ, i64_w, i32_w]
           rfl
          refine take_ (i := 1) (N := some 41) (v := ?_) (a' := ?_) #[true, true, true, true, true, false, false, false, false] rfl rfl (take_ofW HT_.out HW_.out (by kernel_rfl)) (fun _ _ _ h => h) (Or.inl ⟨by rfl, ?_⟩) hHeld ?_ ?_
          rotate_left
          ·rintro w' ⟨s0, s1, s2, s3⟩
           go_simp
           with_reducible rfl
          rotate_left
          ·simp only [Act.put, List.setIfInBounds_toArray, List.set_cons_zero, List.set_cons_succ, i64_w, i32_w]
           rfl
          refine take_ (i := 5) (N := some 45) (v := ?_) (a' := ?_) #[true, true, true, true, true, true, false, false, false] rfl rfl (take_ofW HT_.out HW_.out (by kernel_rfl)) (fun _ _ _ h => h) (Or.inl ⟨by rfl, ?_⟩) hHeld ?_ ?_
          rotate_left
          ·rintro w' ⟨s0, s1, s2, s3⟩
           go_simp
           with_reducible rfl
          rotate_left
          ·simp only [Act.put, List.setIfInBounds_toArray, List.set_cons_zero, List.set_cons_succ, i64_w, i32_w]
           rfl
          refine join_ (σ := Nat) 1 #[true, true, true, true, true, true, true, true, false] (fun s_ => [(46, .agg #[.int .i64 t407, .string t408, .string t409, .int .i64 t410]), (8, .pointer (some ⟨s_, 0, none⟩))]) (fun s_ w' => (w'.cell? ⟨gb405, 0, none⟩ = some (u406000) ∧ w'.cell? ⟨gb405, 1, none⟩ = some (.string x406001_2) ∧ w'.cell? ⟨gb405, 2, none⟩ = some (.int .i64 0) ∧ w'.cell? (ad406.add (x7_2).toNat) = some (.int .i64 (rd l1 x7_2))) ∧ (Kd.R k99 99 w' w.heap.size (fun _ => True) u406000 x406000_2) ∧ (w'.heap[gb402]? = some (.cells #[.slice none 0 0, .string x403001_2, .int .i64 x403002_2] 97 (0, 0))) ∧ (w'.heap[gb405]? = some (.cells #[u406000, .string x406001_2, .int .i64 0] 97 (0, 0))) ∧ (w'.heap[s_]? = some (.cells #[.int .i64 0, .string (⟨#[]⟩ : ByteArray), .string (⟨#[]⟩ : ByteArray), .int .i64 0] 93 (0, 0))) ∧ (w.heap.size ≤ s_) ∧ (w.heap.size ≤ s_) ∧ (gb402 ≠ s_) ∧ (s_ ≠ gb402) ∧ (gb405 ≠ s_) ∧ (s_ ≠ gb405) ∧ (Below w.heap.size w w')) ?_ ?_
          rotate_left
          ·intro hCont
           refine two_ (i := 6) (j := 7) (Ni := some 46) (Nj := some 8) #[true, true, true, true, true, true, true, false, false] #[true, true, true, true, true, true, false, true, false] rfl rfl rfl rfl (two_of HT_.out (by kernel_rfl)) (by decide) (by decide) (fun K hK => ?_) (fun K hK => ?_)
           ·skip
            refine goes_ Tryd.func99 (by kernel_rfl) rfl #[.string x406001_2, .int .i64 (rd l1 x7_2)] (by rfl) rfl rfl (by (try simp only [List.map_toArray, List.map_cons, List.map_nil]); first | done | rfl | (simp only [List.length_drop, List.length_take]; rfl)) ?_
            with_reducible refine (caduceusref01_take.calls k2 x406001_2 (rd l1 x7_2) t407 t408 t409 t410 _ A18.out).mono ?_
            rintro e w41 ⟨rfl, hb⟩
            refine ⟨_, rfl, ?_⟩
            have n0_ := Aside0.mk (Kd.R_below (by (with_reducible repeat (first | apply Kd.R_alloc | apply Kd.R_drewN | apply Kd.R_drew)); exact HO_406000.out) hb)
            have n1_ := Aside0.mk (blk_below (g := gb402) (o := .cells #[.slice none 0 0, .string x403001_2, .int .i64 x403002_2] 97 (0, 0)) blkA hb)
            have n2_ := Aside0.mk (blk_below (g := gb405) (o := .cells #[u406000, .string x406001_2, .int .i64 0] 97 (0, 0)) blkA hb)
            have n3_ := Aside0.mk (below_step bwA hb)
            clear HO_406000
            clear BK402
            clear BK405
            clear HB
            have HO_406000 := n0_
            have BK402 := n1_
            have BK405 := n2_
            have HB := n3_
            clear n0_ n1_ n2_ n3_
            (try clear hb)
            (try clear hb2)
            (try clear hk)
            (try clear hi)
            refine hK.out _ _ ⟨(blk_cell BK405.out 0).trans rfl, (blk_cell BK405.out 1).trans rfl, (blk_cell BK405.out 2).trans rfl, ((HB.out.cell (World.block_lt_of_cell? w _ hw406_0)).trans hw406_0)⟩ (fun hHeld => ?_)
            clear hK K
            refine norm_ (a' := ?_) ?_ ?_
            rotate_left
            ·show Act.put _ (some 46) _ = _
             simp only [Act.put, List.setIfInBounds_toArray, List.set_cons_zero, List.set_cons_succ, i64_w, i32_w]
             rfl
            refine one_ (i := 7) (N := some 8) #[true, true, true, true, true, true, true, true, false] rfl rfl (one_of HT_.out (by kernel_rfl)) (by decide) (fun K hK => ?_)
            refine box_step ?hg (N := 8) ?hd (cs := #[.int .i64 0, .string (⟨#[]⟩ : ByteArray), .string (⟨#[]⟩ : ByteArray), .int .i64 0]) (t := 93) ?hr ?_; (case hd => rfl); (case hg => rfl); (case hr => first | (go_simp; done) | (go_simp; rfl))
            intro gb411 hg w42 hbox hb
            have n0_ := Aside0.mk (Kd.R_below (by (with_reducible repeat (first | apply Kd.R_alloc | apply Kd.R_drewN | apply Kd.R_drew)); exact HO_406000.out) hb)
            have n1_ := Aside0.mk (blk_below (g := gb402) (o := .cells #[.slice none 0 0, .string x403001_2, .int .i64 x403002_2] 97 (0, 0)) blkA hb)
            have n2_ := Aside0.mk (blk_below (g := gb405) (o := .cells #[u406000, .string x406001_2, .int .i64 0] 97 (0, 0)) blkA hb)
            have n3_ := Aside0.mk (below_step bwA hb)
            have n4_ := Aside0.mk (hbox)
            have n5_ := Aside0.mk ((by rw [hg]; exact (below_size bwA) : w.heap.size ≤ gb411))
            have n6_ := Aside0.mk ((by rw [hg]; exact (below_size bwA) : w.heap.size ≤ gb411))
            have n7_ := Aside0.mk ((by rw [hg]; exact Nat.ne_of_lt (blk_lt (g := gb402) (o := .cells #[.slice none 0 0, .string x403001_2, .int .i64 x403002_2] 97 (0, 0)) blkA) : gb402 ≠ gb411))
            have n8_ := Aside0.mk ((by rw [hg]; exact Nat.ne_of_gt (blk_lt (g := gb402) (o := .cells #[.slice none 0 0, .string x403001_2, .int .i64 x403002_2] 97 (0, 0)) blkA) : gb411 ≠ gb402))
            have n9_ := Aside0.mk ((by rw [hg]; exact Nat.ne_of_lt (blk_lt (g := gb405) (o := .cells #[u406000, .string x406001_2, .int .i64 0] 97 (0, 0)) blkA) : gb405 ≠ gb411))
            have n10_ := Aside0.mk ((by rw [hg]; exact Nat.ne_of_gt (blk_lt (g := gb405) (o := .cells #[u406000, .string x406001_2, .int .i64 0] 97 (0, 0)) blkA) : gb411 ≠ gb405))
            clear HO_406000
            clear BK402
            clear BK405
            clear HB
            have HO_406000 := n0_
            have BK402 := n1_
            have BK405 := n2_
            have HB := n3_
            have BK411 := n4_
            have GW411 := n5_
            have GE411 := n6_
            have NB402_411 := n7_
            have NB411_402 := n8_
            have NB405_411 := n9_
            have NB411_405 := n10_
            clear n0_ n1_ n2_ n3_ n4_ n5_ n6_ n7_ n8_ n9_ n10_
            clear hb hbox hg
            refine hK.out _ _ ⟨(blk_cell BK405.out 0).trans rfl, (blk_cell BK405.out 1).trans rfl, (blk_cell BK405.out 2).trans rfl, ((HB.out.cell (World.block_lt_of_cell? w _ hw406_0)).trans hw406_0)⟩ (fun hHeld => ?_)
            clear hK K
            refine norm_ (a' := ?_) ?_ ?_
            rotate_left
            ·show Act.put _ (some 8) _ = _
             simp only [Act.put, List.setIfInBounds_toArray, List.set_cons_zero, List.set_cons_succ, i64_w, i32_w]
             rfl
            exact norm_ (by simp only [putAll, Act.put, List.setIfInBounds_toArray, List.set_cons_zero, List.set_cons_succ]) (hCont (gb411) _ ⟨hHeld, (by (with_reducible repeat (first | apply Kd.R_alloc | apply Kd.R_drewN | apply Kd.R_drew)); exact HO_406000.out), blkA, blkA, blkA, GW411.out, GE411.out, NB402_411.out, NB411_402.out, NB405_411.out, NB411_405.out, bwA⟩)
           ·skip
            refine box_step ?hg (N := 8) ?hd (cs := #[.int .i64 0, .string (⟨#[]⟩ : ByteArray), .string (⟨#[]⟩ : ByteArray), .int .i64 0]) (t := 93) ?hr ?_; (case hd => rfl); (case hg => rfl); (case hr => first | (go_simp; done) | (go_simp; rfl))
            intro gb411 hg w41 hbox hb
            have n0_ := Aside0.mk (Kd.R_below (by (with_reducible repeat (first | apply Kd.R_alloc | apply Kd.R_drewN | apply Kd.R_drew)); exact HO_406000.out) hb)
            have n1_ := Aside0.mk (blk_below (g := gb402) (o := .cells #[.slice none 0 0, .string x403001_2, .int .i64 x403002_2] 97 (0, 0)) blkA hb)
            have n2_ := Aside0.mk (blk_below (g := gb405) (o := .cells #[u406000, .string x406001_2, .int .i64 0] 97 (0, 0)) blkA hb)
            have n3_ := Aside0.mk (below_step bwA hb)
            have n4_ := Aside0.mk (hbox)
            have n5_ := Aside0.mk ((by rw [hg]; exact (below_size bwA) : w.heap.size ≤ gb411))
            have n6_ := Aside0.mk ((by rw [hg]; exact (below_size bwA) : w.heap.size ≤ gb411))
            have n7_ := Aside0.mk ((by rw [hg]; exact Nat.ne_of_lt (blk_lt (g := gb402) (o := .cells #[.slice none 0 0, .string x403001_2, .int .i64 x403002_2] 97 (0, 0)) blkA) : gb402 ≠ gb411))
            have n8_ := Aside0.mk ((by rw [hg]; exact Nat.ne_of_gt (blk_lt (g := gb402) (o := .cells #[.slice none 0 0, .string x403001_2, .int .i64 x403002_2] 97 (0, 0)) blkA) : gb411 ≠ gb402))
            have n9_ := Aside0.mk ((by rw [hg]; exact Nat.ne_of_lt (blk_lt (g := gb405) (o := .cells #[u406000, .string x406001_2, .int .i64 0] 97 (0, 0)) blkA) : gb405 ≠ gb411))
            have n10_ := Aside0.mk ((by rw [hg]; exact Nat.ne_of_gt (blk_lt (g := gb405) (o := .cells #[u406000, .string x406001_2, .int .i64 0] 97 (0, 0)) blkA) : gb411 ≠ gb405))
            clear HO_406000
            clear BK402
            clear BK405
            clear HB
            have HO_406000 := n0_
            have BK402 := n1_
            have BK405 := n2_
            have HB := n3_
            have BK411 := n4_
            have GW411 := n5_
            have GE411 := n6_
            have NB402_411 := n7_
            have NB411_402 := n8_
            have NB405_411 := n9_
            have NB411_405 := n10_
            clear n0_ n1_ n2_ n3_ n4_ n5_ n6_ n7_ n8_ n9_ n10_
            clear hb hbox hg
            refine hK.out _ _ ⟨(blk_cell BK405.out 0).trans rfl, (blk_cell BK405.out 1).trans rfl, (blk_cell BK405.out 2).trans rfl, ((HB.out.cell (World.block_lt_of_cell? w _ hw406_0)).trans hw406_0)⟩ (fun hHeld => ?_)
            clear hK K
            refine norm_ (a' := ?_) ?_ ?_
            rotate_left
            ·show Act.put _ (some 8) _ = _
             simp only [Act.put, List.setIfInBounds_toArray, List.set_cons_zero, List.set_cons_succ, i64_w, i32_w]
             rfl
            refine one_ (i := 6) (N := some 46) #[true, true, true, true, true, true, true, true, false] rfl rfl (one_of HT_.out (by kernel_rfl)) (by decide) (fun K hK => ?_)
            refine goes_ Tryd.func99 (by kernel_rfl) rfl #[.string x406001_2, .int .i64 (rd l1 x7_2)] (by rfl) rfl rfl (by (try simp only [List.map_toArray, List.map_cons, List.map_nil]); first | done | rfl | (simp only [List.length_drop, List.length_take]; rfl)) ?_
            with_reducible refine (caduceusref01_take.calls k2 x406001_2 (rd l1 x7_2) t407 t408 t409 t410 _ A18.out).mono ?_
            rintro e w42 ⟨rfl, hb⟩
            refine ⟨_, rfl, ?_⟩
            have n0_ := Aside0.mk (Kd.R_below (by (with_reducible repeat (first | apply Kd.R_alloc | apply Kd.R_drewN | apply Kd.R_drew)); exact HO_406000.out) hb)
            have n1_ := Aside0.mk (blk_below (g := gb402) (o := .cells #[.slice none 0 0, .string x403001_2, .int .i64 x403002_2] 97 (0, 0)) blkA hb)
            have n2_ := Aside0.mk (blk_below (g := gb405) (o := .cells #[u406000, .string x406001_2, .int .i64 0] 97 (0, 0)) blkA hb)
            have n3_ := Aside0.mk (blk_below (g := gb411) (o := .cells #[.int .i64 0, .string (⟨#[]⟩ : ByteArray), .string (⟨#[]⟩ : ByteArray), .int .i64 0] 93 (0, 0)) blkA hb)
            have n4_ := Aside0.mk (below_step bwA hb)
            clear HO_406000
            clear BK402
            clear BK405
            clear BK411
            clear HB
            have HO_406000 := n0_
            have BK402 := n1_
            have BK405 := n2_
            have BK411 := n3_
            have HB := n4_
            clear n0_ n1_ n2_ n3_ n4_
            (try clear hb)
            (try clear hb2)
            (try clear hk)
            (try clear hi)
            refine hK.out _ _ ⟨(blk_cell BK405.out 0).trans rfl, (blk_cell BK405.out 1).trans rfl, (blk_cell BK405.out 2).trans rfl, ((HB.out.cell (World.block_lt_of_cell? w _ hw406_0)).trans hw406_0)⟩ (fun hHeld => ?_)
            clear hK K
            refine norm_ (a' := ?_) ?_ ?_
            rotate_left
            ·show Act.put _ (some 46) _ = _
             simp only [Act.put, List.setIfInBounds_toArray, List.set_cons_zero, List.set_cons_succ, i64_w, i32_w]
             rfl
            exact norm_ (by simp only [putAll, Act.put, List.setIfInBounds_toArray, List.set_cons_zero, List.set_cons_succ]) (hCont (gb411) _ ⟨hHeld, (by (with_reducible repeat (first | apply Kd.R_alloc | apply Kd.R_drewN | apply Kd.R_drew)); exact HO_406000.out), blkA, blkA, blkA, GW411.out, GE411.out, NB402_411.out, NB411_402.out, NB405_411.out, NB411_405.out, bwA⟩)
          rintro gb411 w43 ⟨hS_, h0_, h1_, h2_, h3_, h4_, h5_, h6_, h7_, h8_, h9_, h10_⟩
          have n0_ : Aside0 (Kd.R k99 99 w43 w.heap.size (fun _ => True) u406000 x406000_2) := ⟨h0_⟩
          have n1_ : Aside0 (w43.heap[gb402]? = some (.cells #[.slice none 0 0, .string x403001_2, .int .i64 x403002_2] 97 (0, 0))) := ⟨h1_⟩
          have n2_ : Aside0 (w43.heap[gb405]? = some (.cells #[u406000, .string x406001_2, .int .i64 0] 97 (0, 0))) := ⟨h2_⟩
          have n3_ : Aside0 (w43.heap[gb411]? = some (.cells #[.int .i64 0, .string (⟨#[]⟩ : ByteArray), .string (⟨#[]⟩ : ByteArray), .int .i64 0] 93 (0, 0))) := ⟨h3_⟩
          have n4_ : Aside0 (w.heap.size ≤ gb411) := ⟨h4_⟩
          have n5_ : Aside0 (w.heap.size ≤ gb411) := ⟨h5_⟩
          have n6_ : Aside0 (gb402 ≠ gb411) := ⟨h6_⟩
          have n7_ : Aside0 (gb411 ≠ gb402) := ⟨h7_⟩
          have n8_ : Aside0 (gb405 ≠ gb411) := ⟨h8_⟩
          have n9_ : Aside0 (gb411 ≠ gb405) := ⟨h9_⟩
          have n10_ : Aside0 (Below w.heap.size w w43) := ⟨h10_⟩
          clear HO_406000
          clear BK402
          clear BK405
          clear HB
          clear h0_ h1_ h2_ h3_ h4_ h5_ h6_ h7_ h8_ h9_ h10_
          have HO_406000 := n0_
          have BK402 := n1_
          have BK405 := n2_
          have BK411 := n3_
          have GW411 := n4_
          have GE411 := n5_
          have NB402_411 := n6_
          have NB411_402 := n7_
          have NB405_411 := n8_
          have NB411_405 := n9_
          have HB := n10_
          clear n0_ n1_ n2_ n3_ n4_ n5_ n6_ n7_ n8_ n9_ n10_
          have hHeld : w43.cell? ⟨gb405, 0, none⟩ = some (u406000) ∧ w43.cell? ⟨gb405, 1, none⟩ = some (.string x406001_2) ∧ w43.cell? ⟨gb405, 2, none⟩ = some (.int .i64 0) ∧ w43.cell? (ad406.add (x7_2).toNat) = some (.int .i64 (rd l1 x7_2)) := hS_
          refine norm_ (a' := ?_) ?_ ?_
          rotate_left
          ·simp only [putAll, Act.put, List.setIfInBounds_toArray, List.set_cons_zero, List.set_cons_succ]
           rfl
          refine one_ (i := 8) (N := none) #[true, true, true, true, true, true, true, true, true] rfl rfl (one_of HT_.out (by kernel_rfl)) (by decide) (fun K hK => ?_)
          have hs44 : w43.cell? ⟨gb411, 0, none⟩ = some (.int .i64 0) := (blk_cell BK411.out 0).trans rfl
          have hfs44 := blk_frozen BK411.out 0
          have hns44_0 := NB402_411.out
          have hns44_1 := NB405_411.out
          have hms44_0 := NB411_402.out
          have hms44_1 := NB411_405.out
          have hs45 : w43.cell? ⟨gb411, 1, none⟩ = some (.string (⟨#[]⟩ : ByteArray)) := (blk_cell BK411.out 1).trans rfl
          have hfs45 := blk_frozen BK411.out 1
          have hns45_0 := NB402_411.out
          have hns45_1 := NB405_411.out
          have hms45_0 := NB411_402.out
          have hms45_1 := NB411_405.out
          have hs46 : w43.cell? ⟨gb411, 2, none⟩ = some (.string (⟨#[]⟩ : ByteArray)) := (blk_cell BK411.out 2).trans rfl
          have hfs46 := blk_frozen BK411.out 2
          have hns46_0 := NB402_411.out
          have hns46_1 := NB405_411.out
          have hms46_0 := NB411_402.out
          have hms46_1 := NB411_405.out
          have hs47 : w43.cell? ⟨gb411, 3, none⟩ = some (.int .i64 0) := (blk_cell BK411.out 3).trans rfl
          have hfs47 := blk_frozen BK411.out 3
          have hns47_0 := NB402_411.out
          have hns47_1 := NB405_411.out
          have hms47_0 := NB411_402.out
          have hms47_1 := NB411_405.out
          refine skip_ (w1 := ?_) (by rfl) rfl ?_ ?_
          rotate_left
          ·go_simp
           rfl
          refine hK.out _ _ ⟨far4 NB405_411.out hHeld.1, far4 NB405_411.out hHeld.2.1, far4 NB405_411.out hHeld.2.2.1, far4 (by first | exact Nat.ne_of_lt (Nat.lt_of_lt_of_le (by have := World.block_lt_of_cell? _ _ hw406_0; first | rwa [add_block] at this | exact this) GW411.out) | (rw [add_block]; exact Nat.ne_of_lt (Nat.lt_of_lt_of_le (by have := World.block_lt_of_cell? _ _ hw406_0; first | rwa [add_block] at this | exact this) GW411.out)) | (show (Addr.add _ _).block ≠ _; rw [add_block]; exact Nat.ne_of_lt (Nat.lt_of_lt_of_le (by have := World.block_lt_of_cell? _ _ hw406_0; first | rwa [add_block] at this | exact this) GW411.out)) | (dsimp only; exact Nat.ne_of_lt (Nat.lt_of_lt_of_le (by have := World.block_lt_of_cell? _ _ hw406_0; first | rwa [add_block] at this | exact this) GW411.out))) hHeld.2.2.2⟩ (fun hHeld => ?_)
          clear hK K
          refine done_ (done_of HT_.out (by kernel_rfl)) ?_
          have hnb48 := NB411_402.out
          have hnc48 := NB402_411.out
          have hnb49 := NB411_405.out
          have hnc49 := NB405_411.out
          have hcz50_0 : w43.cell? ⟨gb411, 0, none⟩ = some (.int .i64 0) := (blk_cell BK411.out 0).trans rfl
          have hcz50_1 : w43.cell? ⟨gb411, 1, none⟩ = some (.string (⟨#[]⟩ : ByteArray)) := (blk_cell BK411.out 1).trans rfl
          have hcz50_2 : w43.cell? ⟨gb411, 2, none⟩ = some (.string (⟨#[]⟩ : ByteArray)) := (blk_cell BK411.out 2).trans rfl
          have hcz50_3 : w43.cell? ⟨gb411, 3, none⟩ = some (.int .i64 0) := (blk_cell BK411.out 3).trans rfl
          have hfz50_0 := blk_frozen BK411.out 0
          have hfz50_1 := blk_frozen BK411.out 1
          have hfz50_2 := blk_frozen BK411.out 2
          have hfz50_3 := blk_frozen BK411.out 3
          have hnb51 := NB402_405.out
          have hnc51 := NB405_402.out
          have hcz52_0 : w43.cell? ⟨gb402, 0, none⟩ = some (.slice none 0 0) := (blk_cell BK402.out 0).trans rfl
          have hcz52_1 : w43.cell? ⟨gb402, 1, none⟩ = some (.string x403001_2) := (blk_cell BK402.out 1).trans rfl
          have hcz52_2 : w43.cell? ⟨gb402, 2, none⟩ = some (.int .i64 x403002_2) := (blk_cell BK402.out 2).trans rfl
          have hfz52_0 := blk_frozen BK402.out 0
          have hfz52_1 := blk_frozen BK402.out 1
          have hfz52_2 := blk_frozen BK402.out 2
          try go_wp2
          refine bodyPost_ret (results_cell_row rfl _ _ gb402 97 #[.slice none 0 0, .string (⟨#[]⟩ : ByteArray), .int .i64 t410] (0, 0) _ rfl (by (with_reducible repeat (first | refine blk_drewN ?_ _ | refine blk_drew ?_ | refine blk_alloc ?_ _)); refine blk_put (cs := #[.slice none 0 0, .string (⟨#[]⟩ : ByteArray), .int .i64 x403002_2]) ?_ 2 _ rfl; (with_reducible repeat (first | refine blk_drewN ?_ _ | refine blk_drew ?_ | refine blk_alloc ?_ _)); refine blk_put (cs := #[.slice none 0 0, .string x403001_2, .int .i64 x403002_2]) ?_ 1 _ rfl; (with_reducible repeat (first | refine blk_drewN ?_ _ | refine blk_drew ?_ | refine blk_alloc ?_ _)); refine blk_put (cs := #[.slice none 0 0, .string x403001_2, .int .i64 x403002_2]) ?_ 0 _ rfl; (with_reducible repeat (first | refine blk_drewN ?_ _ | refine blk_drew ?_ | refine blk_alloc ?_ _)); refine blk_far ?_ NB402_411.out _; (with_reducible repeat (first | refine blk_drewN ?_ _ | refine blk_drew ?_ | refine blk_alloc ?_ _)); refine blk_far ?_ NB402_411.out _; (with_reducible repeat (first | refine blk_drewN ?_ _ | refine blk_drew ?_ | refine blk_alloc ?_ _)); refine blk_far ?_ NB402_411.out _; (with_reducible repeat (first | refine blk_drewN ?_ _ | refine blk_drew ?_ | refine blk_alloc ?_ _)); refine blk_far ?_ NB402_411.out _; (with_reducible repeat (first | refine blk_drewN ?_ _ | refine blk_drew ?_ | refine blk_alloc ?_ _)); exact BK402.out) Tryd.underlying97 rfl (by kernel_rfl)) rfl ?_
          exact ⟨_, by first | rfl | (simp [errW_none, errW_some] <;> rfl) | (simp [*, errW_none, errW_some] <;> rfl), by first | exact Kd.R_nil _ _ _ _ _ | exact Kd.N_nil _ _ _ _ _ | exact Kd.V_nil _ _ _ _ _ | exact Kd.Q_nil _ _ _ _ _ | exact Kd.S_nil _ _ _ _ _, by repeat (first | (with_reducible first | exact HB.out | apply below_alloc | apply pw_below_drewN | apply below_drew1 | refine below_set ?_ GE402.out | refine below_set ?_ GE405.out | refine below_set ?_ GE411.out) | exact HB.out)⟩
        ·rw [if_neg c17] at H
         exact absurd H (by simp)
       ·rw [if_neg c16] at H
        have c16b0 : decide (x7_2 < (l1.length : Int)) = false := decide_eq_false c16
        clear c16
        simp only [Option.some.injEq, Prod.mk.injEq] at H
        obtain ⟨rfl, rfl, rfl⟩ := H
        have hnb53 := NB405_402.out
        have hnc53 := NB402_405.out
        have hcz54_0 : wr.cell? ⟨gb405, 0, none⟩ = some (u406000) := (blk_cell BK405.out 0).trans rfl
        have hcz54_1 : wr.cell? ⟨gb405, 1, none⟩ = some (.string x406001_2) := (blk_cell BK405.out 1).trans rfl
        have hcz54_2 : wr.cell? ⟨gb405, 2, none⟩ = some (.int .i64 0) := (blk_cell BK405.out 2).trans rfl
        have hfz54_0 := blk_frozen BK405.out 0
        have hfz54_1 := blk_frozen BK405.out 1
        have hfz54_2 := blk_frozen BK405.out 2
        obtain ⟨Ao55, co55, eo55⟩ := Kd.R_slice HO_406000.out
        subst eo55
        have hcz56_0 : wr.cell? ⟨gb402, 0, none⟩ = some (.slice none 0 0) := (blk_cell BK402.out 0).trans rfl
        have hcz56_1 : wr.cell? ⟨gb402, 1, none⟩ = some (.string x403001_2) := (blk_cell BK402.out 1).trans rfl
        have hcz56_2 : wr.cell? ⟨gb402, 2, none⟩ = some (.int .i64 x403002_2) := (blk_cell BK402.out 2).trans rfl
        have hfz56_0 := blk_frozen BK402.out 0
        have hfz56_1 := blk_frozen BK402.out 1
        have hfz56_2 := blk_frozen BK402.out 2
        go_wp2
        refine bodyPost_ret (results_cell_row rfl _ _ gb402 97 #[.slice Ao55 x406000_2.length co55, .string x406001_2, .int .i64 0] (0, 0) _ rfl (by (with_reducible repeat (first | refine blk_drewN ?_ _ | refine blk_drew ?_ | refine blk_alloc ?_ _)); refine blk_put (cs := #[.slice Ao55 x406000_2.length co55, .string x406001_2, .int .i64 x403002_2]) ?_ 2 _ rfl; (with_reducible repeat (first | refine blk_drewN ?_ _ | refine blk_drew ?_ | refine blk_alloc ?_ _)); refine blk_put (cs := #[.slice Ao55 x406000_2.length co55, .string x403001_2, .int .i64 x403002_2]) ?_ 1 _ rfl; (with_reducible repeat (first | refine blk_drewN ?_ _ | refine blk_drew ?_ | refine blk_alloc ?_ _)); refine blk_put (cs := #[.slice none 0 0, .string x403001_2, .int .i64 x403002_2]) ?_ 0 _ rfl; (with_reducible repeat (first | refine blk_drewN ?_ _ | refine blk_drew ?_ | refine blk_alloc ?_ _)); exact BK402.out) Tryd.underlying97 rfl (by kernel_rfl)) rfl ?_
        exact ⟨_, by first | rfl | (simp [errW_none, errW_some] <;> rfl) | (simp [*, errW_none, errW_some] <;> rfl), by (with_reducible repeat (first | apply Kd.R_alloc | apply Kd.R_drewN | apply Kd.R_drew)); exact Kd.R_mono (Kd.R_far (p := ⟨gb402, 2, none⟩) (Kd.R_far (p := ⟨gb402, 1, none⟩) (Kd.R_far (p := ⟨gb402, 0, none⟩) (Kd.R_types HO_406000.out BK402.out (by decide)) (fun _ hk => hk.2) (.slice Ao55 x406000_2.length co55)) (fun _ hk => hk.2) (.string x406001_2)) (fun _ hk => hk.2) (.int .i64 0)) (fun _ hk => trivial), by repeat (first | (with_reducible first | exact HB.out | apply below_alloc | apply pw_below_drewN | apply below_drew1 | refine below_set ?_ GE402.out | refine below_set ?_ GE405.out) | exact HB.out)⟩

end Go.Proofs.YtoajlmmkkcelgaaDoor.A
