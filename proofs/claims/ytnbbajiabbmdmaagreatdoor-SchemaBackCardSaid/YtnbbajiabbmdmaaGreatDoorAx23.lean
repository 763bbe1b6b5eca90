-- By drv.py, the session's own driver round the kit's print: the machine's side of the laws, function by function. Not trusted: Lean checks it.
import Derived.Test.YtnbbajiabbmdmaaGreatDoorAx0
import Derived.Test.YtnbbajiabbmdmaaGreatDoorAx8
import Derived.Test.YtnbbajiabbmdmaaGreatDoorAx16
import Derived.Test.YtnbbajiabbmdmaaGreatDoorAx17
import Derived.Test.YtnbbajiabbmdmaaGreatDoorAx22
namespace Go.Proofs.YtnbbajiabbmdmaaGreatDoor.A
open Go.RowKit Go.Proofs.YtnbbajiabbmdmaaGreatDoorW.PrintWords Go.Proofs.YtnbbajiabbmdmaaGreatDoorW.PrintLast Go.Proofs.YtnbbajiabbmdmaaGreatDoorW.PrintMore
attribute [local go_sem] max2_int min2_int max_two min_two max_three min_three max_four min_four   -- for this text's walks alone
set_option linter.unusedVariables false
set_option linter.unusedSimpArgs false

/-! ### value_Read: function 70 -/
def value_Read.f (k : Nat) (a0 : ByteArray) : Option (Int × Int × ByteArray × ByteArray × Int) := (quic_Get.f k a0).bind fun bt525 => (if bt525.2.2 = 0 then ((value_how.f bt525.1).bind fun t528 => (if t528 = 0 then (some (0, 0, (⟨#[]⟩ : ByteArray), (⟨#[]⟩ : ByteArray), 8)) else ((value_how.f bt525.1).bind fun t529 => ((quic_Take.f k bt525.2.1 (([t529] : List Int))).bind fun bt533 => (if bt533.2.2 = 0 then (if 0 < (bt533.1.length : Int) then ((value_Check.f bt525.1 ((rd_T101 bt533.1 0).f1) ((rd_T101 bt533.1 0).f2)).bind fun t540 => (if t540 = true then (some (bt525.1, (rd_T101 bt533.1 0).f1, (rd_T101 bt533.1 0).f2, bt533.2.1, 0)) else (some (0, 0, (⟨#[]⟩ : ByteArray), (⟨#[]⟩ : ByteArray), 3)))) else (none)) else (some (0, 0, (⟨#[]⟩ : ByteArray), (⟨#[]⟩ : ByteArray), bt533.2.2))))))) else (some (0, 0, (⟨#[]⟩ : ByteArray), (⟨#[]⟩ : ByteArray), bt525.2.2)))
theorem value_Read.mono : ∀ a0 k, LeO (value_Read.f k a0) (value_Read.f (k + 1) a0) := by
 intro a0 k
 unfold value_Read.f
 repeat' first
   | (with_reducible exact quic_Get.mono _ _)
   | (with_reducible exact quic_Take.mono _ _ _)
   | (with_reducible exact LeO.refl _)
   | (with_reducible exact LeO.none _)
   | (with_reducible refine LeO.ite ?_ ?_)
   | (with_reducible refine LeO.bind ?_ (fun _ => ?_))
   | exact quic_Get.mono _ _
   | exact quic_Take.mono _ _ _
   | exact LeO.none _
   | refine LeO.ite ?_ ?_
   | refine LeO.bind ?_ (fun _ => ?_)
def value_Read.T9 : Bool × List (List Nat × List Nat) := (true, [([], []), ([], []), ([1], [1]), ([2], [2]), ([3], [3]), ([], []), ([5], [5]), ([6], [6]), ([7], [7]), ([0, 4, 8], [0, 4, 8]), ([9, 0, 1, 2, 3, 4, 5, 6, 7, 8, 9], [9])])
def value_Read.B9 : List Nat := [0, 0, 2, 6, 14, 0, 32, 96, 224, 511, 1023]
theorem value_Read.tab9 : rtab .any (opsOf Tryz.f70 9) = value_Read.T9 := by kernel_rfl
theorem value_Read.bits9 : waitsOk value_Read.T9.2 value_Read.B9 = true := by kernel_rfl
set_option maxHeartbeats 8000000 in
set_option maxRecDepth 100000 in
theorem value_Read.calls (k : Nat) (a0 : ByteArray) (r1 : Int) (r2 : Int) (r3 : ByteArray) (r4 : ByteArray) (r5 : Int) (w : World) (hT : Tabs w) (h : value_Read.f k a0 = some (r1, r2, r3, r4, r5)) :
  Calls Tryz.prog 70 #[.string a0] w fun e w' => e = .returned (.tuple #[.agg #[.int .i64 r1, .int .i64 r2, .string r3], .string r4, .int .i64 r5]) ∧ Below w.heap.size w w' := by
 have hu37 := Tryz.underlying37
 have HB := Aside0.mk (Below.refl w.heap.size w)
 have H : ((quic_Get.f k a0).bind fun bt525 => (if bt525.2.2 = 0 then ((value_how.f bt525.1).bind fun t528 => (if t528 = 0 then (some (0, 0, (⟨#[]⟩ : ByteArray), (⟨#[]⟩ : ByteArray), 8)) else ((value_how.f bt525.1).bind fun t529 => ((quic_Take.f k bt525.2.1 (([t529] : List Int))).bind fun bt533 => (if bt533.2.2 = 0 then (if 0 < (bt533.1.length : Int) then ((value_Check.f bt525.1 ((rd_T101 bt533.1 0).f1) ((rd_T101 bt533.1 0).f2)).bind fun t540 => (if t540 = true then (some (bt525.1, (rd_T101 bt533.1 0).f1, (rd_T101 bt533.1 0).f2, bt533.2.1, 0)) else (some (0, 0, (⟨#[]⟩ : ByteArray), (⟨#[]⟩ : ByteArray), 3)))) else (none)) else (some (0, 0, (⟨#[]⟩ : ByteArray), (⟨#[]⟩ : ByteArray), bt533.2.2))))))) else (some (0, 0, (⟨#[]⟩ : ByteArray), (⟨#[]⟩ : ByteArray), bt525.2.2)))) = some (r1, r2, r3, r4, r5) := h
 clear h
 have HT := Aside0.mk hT
 clear hT
 replace H := Option.bind_eq_some_iff.mp H
 obtain ⟨⟨t525, t526, t527⟩, A20, H⟩ := H
 replace H : (if t527 = 0 then ((value_how.f t525).bind fun t528 => (if t528 = 0 then (some (0, 0, (⟨#[]⟩ : ByteArray), (⟨#[]⟩ : ByteArray), 8)) else ((value_how.f t525).bind fun t529 => ((quic_Take.f k t526 (([t529] : List Int))).bind fun bt533 => (if bt533.2.2 = 0 then (if 0 < (bt533.1.length : Int) then ((value_Check.f t525 ((rd_T101 bt533.1 0).f1) ((rd_T101 bt533.1 0).f2)).bind fun t540 => (if t540 = true then (some (t525, (rd_T101 bt533.1 0).f1, (rd_T101 bt533.1 0).f2, bt533.2.1, 0)) else (some (0, 0, (⟨#[]⟩ : ByteArray), (⟨#[]⟩ : ByteArray), 3)))) else (none)) else (some (0, 0, (⟨#[]⟩ : ByteArray), (⟨#[]⟩ : ByteArray), bt533.2.2))))))) else (some (0, 0, (⟨#[]⟩ : ByteArray), (⟨#[]⟩ : ByteArray), t527))) = some (r1, r2, r3, r4, r5) := H
 have A2 := Aside0.mk A20
 clear A20
 by_cases c3 : t527 = 0
 ·rw [if_pos c3] at H
  have c3b0 : (t527 == 0) = true := beq_iff_eq.mpr c3
  have c3b1 : (t527 != 0) = false := bne_eq_false_iff_eq.mpr c3
  clear c3
  replace H := Option.bind_eq_some_iff.mp H
  obtain ⟨t528, A40, H⟩ := H
  replace H : (if t528 = 0 then (some (0, 0, (⟨#[]⟩ : ByteArray), (⟨#[]⟩ : ByteArray), 8)) else ((value_how.f t525).bind fun t529 => ((quic_Take.f k t526 (([t529] : List Int))).bind fun bt533 => (if bt533.2.2 = 0 then (if 0 < (bt533.1.length : Int) then ((value_Check.f t525 ((rd_T101 bt533.1 0).f1) ((rd_T101 bt533.1 0).f2)).bind fun t540 => (if t540 = true then (some (t525, (rd_T101 bt533.1 0).f1, (rd_T101 bt533.1 0).f2, bt533.2.1, 0)) else (some (0, 0, (⟨#[]⟩ : ByteArray), (⟨#[]⟩ : ByteArray), 3)))) else (none)) else (some (0, 0, (⟨#[]⟩ : ByteArray), (⟨#[]⟩ : ByteArray), bt533.2.2)))))) = some (r1, r2, r3, r4, r5) := H
  have A4 := Aside0.mk A40
  clear A40
  by_cases c5 : t528 = 0
  ·rw [if_pos c5] at H
   have c5b0 : (t528 == 0) = true := beq_iff_eq.mpr c5
   have c5b1 : (t528 != 0) = false := bne_eq_false_iff_eq.mpr c5
   clear c5
   simp only [Option.some.injEq, Prod.mk.injEq] at H
   obtain ⟨rfl, rfl, rfl, rfl, rfl⟩ := H
   go_enter Tryz.func70, Tryz.ntmps70
   go_wp2_with (first | ((with_reducible refine gate_dst (N := 2) rfl ?_); refine box_event ?hg (N := 2) ?hd (cs := #[.int .i64 0, .int .i64 0, .string (⟨#[]⟩ : ByteArray)]) (t := 37) ?hr ?_; (case hd => rfl); (case hg => rfl); (case hr => first | (go_simp; done) | (go_simp; rfl)); intro gb524 hg w6 hbox hb; have n0_ := Aside0.mk (below_step (bwA) hb); have n1_ := Aside0.mk (hbox); have n2_ := Aside0.mk ((by rw [hg]; exact (below_size (bwA)) : w.heap.size ≤ gb524)); have n3_ := Aside0.mk ((by rw [hg]; exact (below_size (bwA)) : w.heap.size ≤ gb524)); clear HB; have HB := n0_; have BK524 := n1_; have GW524 := n2_; have GE524 := n3_; clear n0_ n1_ n2_ n3_; clear hb hbox hg) | ((with_reducible refine gate_callee (f := 62) rfl ?_); refine goesA (some 9) Tryz.func62 #[.string a0] ?_; (with_reducible refine (quic_Get.calls k a0 t525 t526 t527 _ A2.out).mono ?_); rintro e w' ⟨rfl, ⟨nd, rfl⟩⟩; refine ⟨_, rfl, ?_⟩; (try (rw [drewN_self w6]; generalize hq_ : World.drewN w6 _ = w6; have n0_ : Aside0 (w6.heap[gb524]? = some (.cells #[.int .i64 0, .int .i64 0, .string (⟨#[]⟩ : ByteArray)] 37 (0, 0))) := ⟨by rw [← hq_]; exact blkA⟩; have n1_ : Aside0 (Below w.heap.size w w6) := ⟨by rw [← hq_]; exact (bwA)⟩; clear BK524 HB hq_; have BK524 := n0_; have HB := n1_; clear n0_ n1_))) | ((with_reducible refine gate_callee (f := 96) rfl ?_); refine goesA (some 18) Tryz.func96 #[.int .i64 t525] ?_; (with_reducible refine (value_how.calls t525 t528 _ A4.out).mono ?_); rintro e w' ⟨rfl, ⟨nd, rfl⟩⟩; refine ⟨_, rfl, ?_⟩; (try (rw [drewN_self w6]; generalize hq_ : World.drewN w6 _ = w6; have n0_ : Aside0 (w6.heap[gb524]? = some (.cells #[.int .i64 0, .int .i64 0, .string (⟨#[]⟩ : ByteArray)] 37 (0, 0))) := ⟨by rw [← hq_]; exact blkA⟩; have n1_ : Aside0 (Below w.heap.size w w6) := ⟨by rw [← hq_]; exact (bwA)⟩; clear BK524 HB hq_; have BK524 := n0_; have HB := n1_; clear n0_ n1_)); have hcz7_0 : w6.cell? ⟨gb524, 0, none⟩ = some (.int .i64 0) := (blk_cell BK524.out 0).trans rfl; have hcz7_1 : w6.cell? ⟨gb524, 1, none⟩ = some (.int .i64 0) := (blk_cell BK524.out 1).trans rfl; have hcz7_2 : w6.cell? ⟨gb524, 2, none⟩ = some (.string (⟨#[]⟩ : ByteArray)) := (blk_cell BK524.out 2).trans rfl; have hfz7_0 := blk_frozen BK524.out 0; have hfz7_1 := blk_frozen BK524.out 1; have hfz7_2 := blk_frozen BK524.out 2))
   refine bodyPost_ret (results_ctt rfl _ _ gb524 37 #[.int .i64 0, .int .i64 0, .string (⟨#[]⟩ : ByteArray)] (0, 0) _ rfl (by (with_reducible repeat (first | refine blk_drewN ?_ _ | refine blk_drew ?_ | refine blk_alloc ?_ _)); refine blk_put (cs := #[.int .i64 0, .int .i64 0, .string (⟨#[]⟩ : ByteArray)]) ?_ 2 _ rfl; (with_reducible repeat (first | refine blk_drewN ?_ _ | refine blk_drew ?_ | refine blk_alloc ?_ _)); refine blk_put (cs := #[.int .i64 0, .int .i64 0, .string (⟨#[]⟩ : ByteArray)]) ?_ 1 _ rfl; (with_reducible repeat (first | refine blk_drewN ?_ _ | refine blk_drew ?_ | refine blk_alloc ?_ _)); refine blk_put (cs := #[.int .i64 0, .int .i64 0, .string (⟨#[]⟩ : ByteArray)]) ?_ 0 _ rfl; (with_reducible repeat (first | refine blk_drewN ?_ _ | refine blk_drew ?_ | refine blk_alloc ?_ _)); exact BK524.out) Tryz.underlying37 rfl (by kernel_rfl)) rfl ?_
   exact ⟨endA, bwA⟩
  ·rw [if_neg c5] at H
   have c5b0 : (t528 == 0) = false := beq_eq_false_iff_ne.mpr c5
   have c5b1 : (t528 != 0) = true := bne_iff_ne.mpr c5
   replace H := Option.bind_eq_some_iff.mp H
   obtain ⟨t529, A80, H⟩ := H
   replace H : ((quic_Take.f k t526 (([t529] : List Int))).bind fun bt533 => (if bt533.2.2 = 0 then (if 0 < (bt533.1.length : Int) then ((value_Check.f t525 ((rd_T101 bt533.1 0).f1) ((rd_T101 bt533.1 0).f2)).bind fun t540 => (if t540 = true then (some (t525, (rd_T101 bt533.1 0).f1, (rd_T101 bt533.1 0).f2, bt533.2.1, 0)) else (some (0, 0, (⟨#[]⟩ : ByteArray), (⟨#[]⟩ : ByteArray), 3)))) else (none)) else (some (0, 0, (⟨#[]⟩ : ByteArray), (⟨#[]⟩ : ByteArray), bt533.2.2)))) = some (r1, r2, r3, r4, r5) := H
   have A8 := Aside0.mk A80
   clear A80
   obtain ⟨y530, hy530⟩ : ∃ y_ : List Int, y_ = (([t529] : List Int)) := ⟨_, rfl⟩
   replace H : ((quic_Take.f k t526 y530).bind fun bt533 => (if bt533.2.2 = 0 then (if 0 < (bt533.1.length : Int) then ((value_Check.f t525 ((rd_T101 bt533.1 0).f1) ((rd_T101 bt533.1 0).f2)).bind fun t540 => (if t540 = true then (some (t525, (rd_T101 bt533.1 0).f1, (rd_T101 bt533.1 0).f2, bt533.2.1, 0)) else (some (0, 0, (⟨#[]⟩ : ByteArray), (⟨#[]⟩ : ByteArray), 3)))) else (none)) else (some (0, 0, (⟨#[]⟩ : ByteArray), (⟨#[]⟩ : ByteArray), bt533.2.2)))) = some (r1, r2, r3, r4, r5) := by first | (rw [hy530]; with_reducible exact H) | (have H2_ := (Option.bind_some _ _).symm.trans H; rw [hy530]; with_reducible exact H2_) | (have H2_ := (Option.bind_some _ _).symm.trans H; with_reducible exact H2_) | with_reducible exact H | (rw [hy530]; exact H) | exact H
   have Ny530 := Aside0.mk hy530
   clear hy530
   replace H := Option.bind_eq_some_iff.mp H
   obtain ⟨⟨t533, t534, t535⟩, A90, H⟩ := H
   replace H : (if t535 = 0 then (if 0 < (t533.length : Int) then ((value_Check.f t525 ((rd_T101 t533 0).f1) ((rd_T101 t533 0).f2)).bind fun t540 => (if t540 = true then (some (t525, (rd_T101 t533 0).f1, (rd_T101 t533 0).f2, t534, 0)) else (some (0, 0, (⟨#[]⟩ : ByteArray), (⟨#[]⟩ : ByteArray), 3)))) else (none)) else (some (0, 0, (⟨#[]⟩ : ByteArray), (⟨#[]⟩ : ByteArray), t535))) = some (r1, r2, r3, r4, r5) := H
   have A9 := Aside0.mk A90
   clear A90
   by_cases c10 : t535 = 0
   ·rw [if_pos c10] at H
    have c10b0 : (t535 == 0) = true := beq_iff_eq.mpr c10
    have c10b1 : (t535 != 0) = false := bne_eq_false_iff_eq.mpr c10
    clear c10
    by_cases c11 : 0 < (t533.length : Int)
    ·rw [if_pos c11] at H
     have c11b0 : decide (0 < (t533.length : Int)) = true := decide_eq_true c11
     have c11b1 : decide (0 < t533.length) = true := decide_eq_true (by omega)
     clear c11
     replace H := Option.bind_eq_some_iff.mp H
     obtain ⟨t540, A120, H⟩ := H
     replace H : (if t540 = true then (some (t525, (rd_T101 t533 0).f1, (rd_T101 t533 0).f2, t534, 0)) else (some (0, 0, (⟨#[]⟩ : ByteArray), (⟨#[]⟩ : ByteArray), 3))) = some (r1, r2, r3, r4, r5) := H
     have A12 := Aside0.mk A120
     clear A120
     by_cases c13 : t540 = true
     ·subst c13
      have H1 : (some (t525, (rd_T101 t533 0).f1, (rd_T101 t533 0).f2, t534, 0)) = some (r1, r2, r3, r4, r5) := by rw [if_pos rfl] at H; exact H
      clear H
      have H := H1
      clear H1
      simp only [Option.some.injEq, Prod.mk.injEq] at H
      obtain ⟨rfl, rfl, rfl, rfl, rfl⟩ := H
      go_enter Tryz.func70, Tryz.ntmps70
      try go_wp2_with (first | ((with_reducible refine gate_dst (N := 2) rfl ?_); refine box_event ?hg (N := 2) ?hd (cs := #[.int .i64 0, .int .i64 0, .string (⟨#[]⟩ : ByteArray)]) (t := 37) ?hr ?_; (case hd => rfl); (case hg => rfl); (case hr => first | (go_simp; done) | (go_simp; rfl)); intro gb524 hg w14 hbox hb; have n0_ := Aside0.mk (below_step (bwA) hb); have n1_ := Aside0.mk (hbox); have n2_ := Aside0.mk ((by rw [hg]; exact (below_size (bwA)) : w.heap.size ≤ gb524)); have n3_ := Aside0.mk ((by rw [hg]; exact (below_size (bwA)) : w.heap.size ≤ gb524)); clear HB; have HB := n0_; have BK524 := n1_; have GW524 := n2_; have GE524 := n3_; clear n0_ n1_ n2_ n3_; clear hb hbox hg) | ((with_reducible refine gate_callee (f := 62) rfl ?_); refine goesA (some 9) Tryz.func62 #[.string a0] ?_; (with_reducible refine (quic_Get.calls k a0 t525 t526 t527 _ A2.out).mono ?_); rintro e w' ⟨rfl, ⟨nd, rfl⟩⟩; refine ⟨_, rfl, ?_⟩; (try (rw [drewN_self w14]; generalize hq_ : World.drewN w14 _ = w14; have n0_ : Aside0 (w14.heap[gb524]? = some (.cells #[.int .i64 0, .int .i64 0, .string (⟨#[]⟩ : ByteArray)] 37 (0, 0))) := ⟨by rw [← hq_]; exact blkA⟩; have n1_ : Aside0 (Below w.heap.size w w14) := ⟨by rw [← hq_]; exact (bwA)⟩; clear BK524 HB hq_; have BK524 := n0_; have HB := n1_; clear n0_ n1_))) | ((with_reducible refine gate_callee (f := 96) rfl ?_); refine goesA (some 18) Tryz.func96 #[.int .i64 t525] ?_; (with_reducible refine (value_how.calls t525 t528 _ A4.out).mono ?_); rintro e w' ⟨rfl, ⟨nd, rfl⟩⟩; refine ⟨_, rfl, ?_⟩; (try (rw [drewN_self w14]; generalize hq_ : World.drewN w14 _ = w14; have n0_ : Aside0 (w14.heap[gb524]? = some (.cells #[.int .i64 0, .int .i64 0, .string (⟨#[]⟩ : ByteArray)] 37 (0, 0))) := ⟨by rw [← hq_]; exact blkA⟩; have n1_ : Aside0 (Below w.heap.size w w14) := ⟨by rw [← hq_]; exact (bwA)⟩; clear BK524 HB hq_; have BK524 := n0_; have HB := n1_; clear n0_ n1_))) | ((with_reducible refine gate_callee (f := 96) rfl ?_); refine goesA (some 24) Tryz.func96 #[.int .i64 t525] ?_; (with_reducible refine (value_how.calls t525 t529 _ A8.out).mono ?_); rintro e w' ⟨rfl, ⟨nd, rfl⟩⟩; refine ⟨_, rfl, ?_⟩; (try (rw [drewN_self w14]; generalize hq_ : World.drewN w14 _ = w14; have n0_ : Aside0 (w14.heap[gb524]? = some (.cells #[.int .i64 0, .int .i64 0, .string (⟨#[]⟩ : ByteArray)] 37 (0, 0))) := ⟨by rw [← hq_]; exact blkA⟩; have n1_ : Aside0 (Below w.heap.size w w14) := ⟨by rw [← hq_]; exact (bwA)⟩; clear BK524 HB hq_; have BK524 := n0_; have HB := n1_; clear n0_ n1_))) | ((with_reducible refine gate_dst (N := 25) rfl ?_); refine Kd.R_lit (Kd.int .i64) _ 3 ?hg (N := 25) ?hd (xs := ([t529] : List Int)) (inner := [.int .i64 t529]) (ok := fun _ => True) (okp := fun _ => True) ?hr ?hp (fun _ hk => hk) trivial (Below.refl _ _) (Nat.le_refl _) (by simp) ?_; (case hd => rfl); (case hg => rfl); (case hr => first | (go_simp; done) | (go_simp; rfl)); (case hp => exact (Reps.one (show Kd.M (Kd.int .i64) _ _ _ t529 [.int .i64 t529] from rfl) (Reps.none _ _))); intro v531 w15 ho16 hb hg_ hnew_; clear hg_ hnew_; (first | rw [← Ny530.out] at ho16 | (simp only [Int.reduceToNat] at ho16; rw [← Ny530.out] at ho16)); have n0_ := Aside0.mk (Kd.R_lower ho16 (below_size (bwA))); have n1_ := Aside0.mk (blk_below (g := gb524) (o := .cells #[.int .i64 0, .int .i64 0, .string (⟨#[]⟩ : ByteArray)] 37 (0, 0)) blkA hb); have n2_ := Aside0.mk (below_step (bwA) hb); clear BK524; clear HB; have HO532 := n0_; have BK524 := n1_; have HB := n2_; clear n0_ n1_ n2_; clear hb ho16; obtain ⟨Ao17, co17, eo17⟩ := Kd.R_slice HO532.out; subst eo17) | ((with_reducible refine gate_callee (f := 63) rfl ?_); refine goesA (some 26) Tryz.func63 #[.string t526, .slice Ao17 y530.length co17] ?_; (with_reducible refine (quic_Take.calls k t526 _ _ y530 t533 t534 t535 _ ?side1 ?side2 A9.out).mono ?_); (case side1 => repeat (first | exact (Kd.R_reads' HO532.out).2.2 | (with_reducible refine Kd.C_alloc ?_ _) | (with_reducible refine Kd.C_drewN ?_ _) | (with_reducible refine Kd.C_drew ?_))); (case side2 => exact (Kd.R_reads' HO532.out).2.1); rintro e w18 ⟨v536, rfl, ho0, hb⟩; refine ⟨_, rfl, ?_⟩; have n0_ := Aside0.mk (Kd.R_below (by (with_reducible repeat (first | apply Kd.R_alloc | apply Kd.R_drewN | apply Kd.R_drew)); exact HO532.out) hb); have n1_ := Aside0.mk (Kd.R_lower ho0 (below_size (bwA))); have n2_ := Aside0.mk (blk_below (g := gb524) (o := .cells #[.int .i64 0, .int .i64 0, .string (⟨#[]⟩ : ByteArray)] 37 (0, 0)) blkA hb); have n3_ := Aside0.mk (below_step (bwA) hb); clear HO532; clear BK524; clear HB; have HO532 := n0_; have HO537 := n1_; have BK524 := n2_; have HB := n3_; clear n0_ n1_ n2_ n3_; (try clear hb); (try clear hb2); (try clear hk); (try clear hi); (try clear ho0)))
      have n0_ := Aside0.mk (Kd.R_drew HO532.out)
      have n1_ := Aside0.mk (Kd.R_drew HO537.out)
      have n2_ := Aside0.mk (blk_drew BK524.out)
      have n3_ := Aside0.mk (below_drew1 HB.out)
      clear HO532
      clear HO537
      clear BK524
      clear HB
      have HO532 := n0_
      have HO537 := n1_
      have BK524 := n2_
      have HB := n3_
      clear n0_ n1_ n2_ n3_
      obtain ⟨Ao20, co20, eo20⟩ := Kd.R_slice HO537.out
      (first | subst eo20 | (injection eo20 with f1_ f2_ f3_; have f4_ := f1_.symm; have f5_ := f3_.symm; clear f1_ f2_ f3_; subst f4_; subst f5_))
      have p538 : 0 ≤ (0 : Int) := (by omega)
      have q538 : 0 < (t533.length : Int) := odA
      obtain ⟨ad538, e538, hx538_0, hx538_1, hx538_2⟩ := at_T101 (Kd.R_reads' HO537.out).2.2 0 p538 q538
      cases e538
      have qi538 : (0 < t533.length) = True := eq_true (by omega)
      (try rw [show ((0 : Int)).toNat = 0 from rfl] at hx538_0)
      (try rw [show 0 * 3 = 0 from rfl] at hx538_0)
      (try rw [Addr.add_zero'] at hx538_0)
      (try rw [show ((0 : Int)).toNat = 0 from rfl] at hx538_1)
      (try rw [show 0 * 3 = 0 from rfl] at hx538_1)
      (try rw [Addr.add_zero'] at hx538_1)
      (try rw [show ((0 : Int)).toNat = 0 from rfl] at hx538_2)
      (try rw [show 0 * 3 = 0 from rfl] at hx538_2)
      (try rw [Addr.add_zero'] at hx538_2)
      replace p538 := eq_true p538
      replace q538 := eq_true q538
      have p539 : 0 ≤ (0 : Int) := (by omega)
      have q539 : 0 < (t533.length : Int) := odA
      obtain ⟨ad539, e539, hx539_0, hx539_1, hx539_2⟩ := at_T101 (Kd.R_reads' HO537.out).2.2 0 p539 q539
      obtain rfl : ad538 = ad539 := (by injection e539)
      have qi539 : (0 < t533.length) = True := eq_true (by omega)
      (try rw [show ((0 : Int)).toNat = 0 from rfl] at hx539_0)
      (try rw [show 0 * 3 = 0 from rfl] at hx539_0)
      (try rw [Addr.add_zero'] at hx539_0)
      (try rw [show ((0 : Int)).toNat = 0 from rfl] at hx539_1)
      (try rw [show 0 * 3 = 0 from rfl] at hx539_1)
      (try rw [Addr.add_zero'] at hx539_1)
      (try rw [show ((0 : Int)).toNat = 0 from rfl] at hx539_2)
      (try rw [show 0 * 3 = 0 from rfl] at hx539_2)
      (try rw [Addr.add_zero'] at hx539_2)
      replace p539 := eq_true p539
      replace q539 := eq_true q539
      refine start_ (n := 11) (S := fun w' => w'.cell? ad538 = some (.int .i64 ((rd_T101 t533 0).f0)) ∧ w'.cell? ⟨ad538.block, ad538.off + 1, none⟩ = some (.int .i64 ((rd_T101 t533 0).f1)) ∧ w'.cell? ⟨ad538.block, ad538.off + 2, none⟩ = some (.string ((rd_T101 t533 0).f2)) ∧ w'.cell? ad538 = some (.int .i64 ((rd_T101 t533 0).f0)) ∧ w'.cell? ⟨ad538.block, ad538.off + 1, none⟩ = some (.int .i64 ((rd_T101 t533 0).f1)) ∧ w'.cell? ⟨ad538.block, ad538.off + 2, none⟩ = some (.string ((rd_T101 t533 0).f2))) (ds := []) (mkB 11 0) (by kernel_rfl) rfl rfl ⟨hx538_0, hx538_1, hx538_2, hx539_0, hx539_1, hx539_2⟩ (fun hHeld => ?_); refine with_tabW value_Read.tab9 value_Read.bits9 (fun HT_ HW_ => ?_)
      generalize w18.drew = w19 at HO532 HO537 BK524 HB hx538_0 hx538_1 hx538_2 hx539_0 hx539_1 hx539_2 hHeld ⊢
      refine pureA 0 (some 34) (mkB 11 1) ?_
      refine pureA 1 (some 35) (mkB 11 3) ?_
      refine pureA 2 (some 36) (mkB 11 7) ?_
      refine pureA 3 (some 37) (mkB 11 15) ?_
      refine pureA 5 (some 39) (mkB 11 47) ?_
      refine pureA 6 (some 40) (mkB 11 111) ?_
      refine pureA 7 (some 41) (mkB 11 239) ?_
      refine takeA 4 (some 38) (mkB 11 255) ?_ rfl (Or.inl ⟨by rfl, by rintro w' ⟨s0, s1, s2, s3, s4, s5⟩; go_simp; with_reducible rfl⟩)
      refine takeA 8 (some 42) (mkB 11 511) ?_ rfl (Or.inl ⟨by rfl, by rintro w' ⟨s0, s1, s2, s3, s4, s5⟩; go_simp; with_reducible rfl⟩)
      refine pureA 9 (some 43) (mkB 11 1023) ?_
      refine oneA 10 (none) (mkB 11 2047) (fun K hK => ?_)
      have hs21 : w19.cell? ⟨gb524, 0, none⟩ = some (.int .i64 0) := (blk_cell BK524.out 0).trans rfl
      have hfs21 := blk_frozen BK524.out 0
      have hs22 : w19.cell? ⟨gb524, 1, none⟩ = some (.int .i64 0) := (blk_cell BK524.out 1).trans rfl
      have hfs22 := blk_frozen BK524.out 1
      have hs23 : w19.cell? ⟨gb524, 2, none⟩ = some (.string (⟨#[]⟩ : ByteArray)) := (blk_cell BK524.out 2).trans rfl
      have hfs23 := blk_frozen BK524.out 2
      refine skip_ (w1 := ?_) (by rfl) rfl ?_ ?_
      rotate_left
      ·go_simp
       rfl
      have nz0_ := Aside0.mk (Kd.own_blk (Kd.R_ne HO537.out BK524.out (by decide)))
      refine hK.out _ _ ⟨far3 nz0_.out hHeld.1, far3 nz0_.out hHeld.2.1, far3 nz0_.out hHeld.2.2.1, far3 nz0_.out hHeld.2.2.2.1, far3 nz0_.out hHeld.2.2.2.2.1, far3 nz0_.out hHeld.2.2.2.2.2⟩ (fun hHeld => ?_)
      clear hK K
      refine done_ (done_of HT_.out (by kernel_rfl)) ?_
      have hcz24_0 : w19.cell? ⟨gb524, 0, none⟩ = some (.int .i64 0) := (blk_cell BK524.out 0).trans rfl
      have hcz24_1 : w19.cell? ⟨gb524, 1, none⟩ = some (.int .i64 0) := (blk_cell BK524.out 1).trans rfl
      have hcz24_2 : w19.cell? ⟨gb524, 2, none⟩ = some (.string (⟨#[]⟩ : ByteArray)) := (blk_cell BK524.out 2).trans rfl
      have hfz24_0 := blk_frozen BK524.out 0
      have hfz24_1 := blk_frozen BK524.out 1
      have hfz24_2 := blk_frozen BK524.out 2
      try go_wp2_with (first | ((with_reducible refine gate_callee (f := 52) rfl ?_); refine goesA (some 45) Tryz.func52 #[.agg #[.int .i64 t525, .int .i64 ((rd_T101 t533 0).f1), .string ((rd_T101 t533 0).f2)]] ?_; (with_reducible refine (value_Check.calls t525 ((rd_T101 t533 0).f1) ((rd_T101 t533 0).f2) true _ ?side1 A12.out).mono ?_); (case side1 => exact Tabs.below HT.out (bwA)); rintro e w25 ⟨rfl, hb⟩; refine ⟨_, rfl, ?_⟩; have n0_ := Aside0.mk (Kd.R_below (by (with_reducible repeat (first | apply Kd.R_alloc | apply Kd.R_drewN | apply Kd.R_drew)); exact (Kd.R_mono (Kd.R_far (p := ⟨gb524, 2, none⟩) (Kd.R_far (p := ⟨gb524, 1, none⟩) (Kd.R_far (p := ⟨gb524, 0, none⟩) (Kd.R_types HO532.out BK524.out (by decide)) (fun _ hk => hk.2) (.int .i64 t525)) (fun _ hk => hk.2) (.int .i64 ((rd_T101 t533 0).f1))) (fun _ hk => hk.2) (.string ((rd_T101 t533 0).f2))) (fun _ h_ => h_.1))) hb); have n1_ := Aside0.mk (Kd.R_below (by (with_reducible repeat (first | apply Kd.R_alloc | apply Kd.R_drewN | apply Kd.R_drew)); exact (Kd.R_mono (Kd.R_far (p := ⟨gb524, 2, none⟩) (Kd.R_far (p := ⟨gb524, 1, none⟩) (Kd.R_far (p := ⟨gb524, 0, none⟩) (Kd.R_types HO537.out BK524.out (by decide)) (fun _ hk => hk.2) (.int .i64 t525)) (fun _ hk => hk.2) (.int .i64 ((rd_T101 t533 0).f1))) (fun _ hk => hk.2) (.string ((rd_T101 t533 0).f2))) (fun _ h_ => h_.1))) hb); have n2_ := Aside0.mk (blk_below (g := gb524) (o := .cells #[.int .i64 t525, .int .i64 ((rd_T101 t533 0).f1), .string ((rd_T101 t533 0).f2)] 37 (0, 0)) (by (with_reducible repeat (first | refine blk_drewN ?_ _ | refine blk_drew ?_ | refine blk_alloc ?_ _)); refine blk_put (cs := #[.int .i64 t525, .int .i64 ((rd_T101 t533 0).f1), .string (⟨#[]⟩ : ByteArray)]) ?_ 2 _ rfl; (with_reducible repeat (first | refine blk_drewN ?_ _ | refine blk_drew ?_ | refine blk_alloc ?_ _)); refine blk_put (cs := #[.int .i64 t525, .int .i64 0, .string (⟨#[]⟩ : ByteArray)]) ?_ 1 _ rfl; (with_reducible repeat (first | refine blk_drewN ?_ _ | refine blk_drew ?_ | refine blk_alloc ?_ _)); refine blk_put (cs := #[.int .i64 0, .int .i64 0, .string (⟨#[]⟩ : ByteArray)]) ?_ 0 _ rfl; (with_reducible repeat (first | refine blk_drewN ?_ _ | refine blk_drew ?_ | refine blk_alloc ?_ _)); exact BK524.out) hb); have n3_ := Aside0.mk (below_step (bwA) hb); clear HO532; clear HO537; clear BK524; clear HB; have HO532 := n0_; have HO537 := n1_; have BK524 := n2_; have HB := n3_; clear n0_ n1_ n2_ n3_; (try clear hb); (try clear hb2); (try clear hk); (try clear hi); have hcz26_0 : w25.cell? ⟨gb524, 0, none⟩ = some (.int .i64 t525) := (blk_cell BK524.out 0).trans rfl; have hcz26_1 : w25.cell? ⟨gb524, 1, none⟩ = some (.int .i64 ((rd_T101 t533 0).f1)) := (blk_cell BK524.out 1).trans rfl; have hcz26_2 : w25.cell? ⟨gb524, 2, none⟩ = some (.string ((rd_T101 t533 0).f2)) := (blk_cell BK524.out 2).trans rfl; have hfz26_0 := blk_frozen BK524.out 0; have hfz26_1 := blk_frozen BK524.out 1; have hfz26_2 := blk_frozen BK524.out 2))
      refine bodyPost_ret (results_ctt rfl _ _ gb524 37 #[.int .i64 t525, .int .i64 ((rd_T101 t533 0).f1), .string ((rd_T101 t533 0).f2)] (0, 0) _ rfl (by (with_reducible repeat (first | refine blk_drewN ?_ _ | refine blk_drew ?_ | refine blk_alloc ?_ _)); refine blk_put (cs := #[.int .i64 t525, .int .i64 ((rd_T101 t533 0).f1), .string ((rd_T101 t533 0).f2)]) ?_ 2 _ rfl; (with_reducible repeat (first | refine blk_drewN ?_ _ | refine blk_drew ?_ | refine blk_alloc ?_ _)); refine blk_put (cs := #[.int .i64 t525, .int .i64 ((rd_T101 t533 0).f1), .string ((rd_T101 t533 0).f2)]) ?_ 1 _ rfl; (with_reducible repeat (first | refine blk_drewN ?_ _ | refine blk_drew ?_ | refine blk_alloc ?_ _)); refine blk_put (cs := #[.int .i64 t525, .int .i64 ((rd_T101 t533 0).f1), .string ((rd_T101 t533 0).f2)]) ?_ 0 _ rfl; (with_reducible repeat (first | refine blk_drewN ?_ _ | refine blk_drew ?_ | refine blk_alloc ?_ _)); exact BK524.out) Tryz.underlying37 rfl (by kernel_rfl)) rfl ?_
      exact ⟨endA, bwA⟩
     ·replace c13 := Bool.eq_false_iff.mpr c13
      subst c13
      have H1 : (some (0, 0, (⟨#[]⟩ : ByteArray), (⟨#[]⟩ : ByteArray), 3)) = some (r1, r2, r3, r4, r5) := by rw [if_neg (show ¬ (false = true) by decide)] at H; exact H
      clear H
      have H := H1
      clear H1
      simp only [Option.some.injEq, Prod.mk.injEq] at H
      obtain ⟨rfl, rfl, rfl, rfl, rfl⟩ := H
      go_enter Tryz.func70, Tryz.ntmps70
      try go_wp2_with (first | ((with_reducible refine gate_dst (N := 2) rfl ?_); refine box_event ?hg (N := 2) ?hd (cs := #[.int .i64 0, .int .i64 0, .string (⟨#[]⟩ : ByteArray)]) (t := 37) ?hr ?_; (case hd => rfl); (case hg => rfl); (case hr => first | (go_simp; done) | (go_simp; rfl)); intro gb524 hg w27 hbox hb; have n0_ := Aside0.mk (below_step (bwA) hb); have n1_ := Aside0.mk (hbox); have n2_ := Aside0.mk ((by rw [hg]; exact (below_size (bwA)) : w.heap.size ≤ gb524)); have n3_ := Aside0.mk ((by rw [hg]; exact (below_size (bwA)) : w.heap.size ≤ gb524)); clear HB; have HB := n0_; have BK524 := n1_; have GW524 := n2_; have GE524 := n3_; clear n0_ n1_ n2_ n3_; clear hb hbox hg) | ((with_reducible refine gate_callee (f := 62) rfl ?_); refine goesA (some 9) Tryz.func62 #[.string a0] ?_; (with_reducible refine (quic_Get.calls k a0 t525 t526 t527 _ A2.out).mono ?_); rintro e w' ⟨rfl, ⟨nd, rfl⟩⟩; refine ⟨_, rfl, ?_⟩; (try (rw [drewN_self w27]; generalize hq_ : World.drewN w27 _ = w27; have n0_ : Aside0 (w27.heap[gb524]? = some (.cells #[.int .i64 0, .int .i64 0, .string (⟨#[]⟩ : ByteArray)] 37 (0, 0))) := ⟨by rw [← hq_]; exact blkA⟩; have n1_ : Aside0 (Below w.heap.size w w27) := ⟨by rw [← hq_]; exact (bwA)⟩; clear BK524 HB hq_; have BK524 := n0_; have HB := n1_; clear n0_ n1_))) | ((with_reducible refine gate_callee (f := 96) rfl ?_); refine goesA (some 18) Tryz.func96 #[.int .i64 t525] ?_; (with_reducible refine (value_how.calls t525 t528 _ A4.out).mono ?_); rintro e w' ⟨rfl, ⟨nd, rfl⟩⟩; refine ⟨_, rfl, ?_⟩; (try (rw [drewN_self w27]; generalize hq_ : World.drewN w27 _ = w27; have n0_ : Aside0 (w27.heap[gb524]? = some (.cells #[.int .i64 0, .int .i64 0, .string (⟨#[]⟩ : ByteArray)] 37 (0, 0))) := ⟨by rw [← hq_]; exact blkA⟩; have n1_ : Aside0 (Below w.heap.size w w27) := ⟨by rw [← hq_]; exact (bwA)⟩; clear BK524 HB hq_; have BK524 := n0_; have HB := n1_; clear n0_ n1_))) | ((with_reducible refine gate_callee (f := 96) rfl ?_); refine goesA (some 24) Tryz.func96 #[.int .i64 t525] ?_; (with_reducible refine (value_how.calls t525 t529 _ A8.out).mono ?_); rintro e w' ⟨rfl, ⟨nd, rfl⟩⟩; refine ⟨_, rfl, ?_⟩; (try (rw [drewN_self w27]; generalize hq_ : World.drewN w27 _ = w27; have n0_ : Aside0 (w27.heap[gb524]? = some (.cells #[.int .i64 0, .int .i64 0, .string (⟨#[]⟩ : ByteArray)] 37 (0, 0))) := ⟨by rw [← hq_]; exact blkA⟩; have n1_ : Aside0 (Below w.heap.size w w27) := ⟨by rw [← hq_]; exact (bwA)⟩; clear BK524 HB hq_; have BK524 := n0_; have HB := n1_; clear n0_ n1_))) | ((with_reducible refine gate_dst (N := 25) rfl ?_); refine Kd.R_lit (Kd.int .i64) _ 3 ?hg (N := 25) ?hd (xs := ([t529] : List Int)) (inner := [.int .i64 t529]) (ok := fun _ => True) (okp := fun _ => True) ?hr ?hp (fun _ hk => hk) trivial (Below.refl _ _) (Nat.le_refl _) (by simp) ?_; (case hd => rfl); (case hg => rfl); (case hr => first | (go_simp; done) | (go_simp; rfl)); (case hp => exact (Reps.one (show Kd.M (Kd.int .i64) _ _ _ t529 [.int .i64 t529] from rfl) (Reps.none _ _))); intro v531 w28 ho29 hb hg_ hnew_; clear hg_ hnew_; (first | rw [← Ny530.out] at ho29 | (simp only [Int.reduceToNat] at ho29; rw [← Ny530.out] at ho29)); have n0_ := Aside0.mk (Kd.R_lower ho29 (below_size (bwA))); have n1_ := Aside0.mk (blk_below (g := gb524) (o := .cells #[.int .i64 0, .int .i64 0, .string (⟨#[]⟩ : ByteArray)] 37 (0, 0)) blkA hb); have n2_ := Aside0.mk (below_step (bwA) hb); clear BK524; clear HB; have HO532 := n0_; have BK524 := n1_; have HB := n2_; clear n0_ n1_ n2_; clear hb ho29; obtain ⟨Ao30, co30, eo30⟩ := Kd.R_slice HO532.out; subst eo30) | ((with_reducible refine gate_callee (f := 63) rfl ?_); refine goesA (some 26) Tryz.func63 #[.string t526, .slice Ao30 y530.length co30] ?_; (with_reducible refine (quic_Take.calls k t526 _ _ y530 t533 t534 t535 _ ?side1 ?side2 A9.out).mono ?_); (case side1 => repeat (first | exact (Kd.R_reads' HO532.out).2.2 | (with_reducible refine Kd.C_alloc ?_ _) | (with_reducible refine Kd.C_drewN ?_ _) | (with_reducible refine Kd.C_drew ?_))); (case side2 => exact (Kd.R_reads' HO532.out).2.1); rintro e w31 ⟨v536, rfl, ho0, hb⟩; refine ⟨_, rfl, ?_⟩; have n0_ := Aside0.mk (Kd.R_below (by (with_reducible repeat (first | apply Kd.R_alloc | apply Kd.R_drewN | apply Kd.R_drew)); exact HO532.out) hb); have n1_ := Aside0.mk (Kd.R_lower ho0 (below_size (bwA))); have n2_ := Aside0.mk (blk_below (g := gb524) (o := .cells #[.int .i64 0, .int .i64 0, .string (⟨#[]⟩ : ByteArray)] 37 (0, 0)) blkA hb); have n3_ := Aside0.mk (below_step (bwA) hb); clear HO532; clear BK524; clear HB; have HO532 := n0_; have HO537 := n1_; have BK524 := n2_; have HB := n3_; clear n0_ n1_ n2_ n3_; (try clear hb); (try clear hb2); (try clear hk); (try clear hi); (try clear ho0)))
      have n0_ := Aside0.mk (Kd.R_drew HO532.out)
      have n1_ := Aside0.mk (Kd.R_drew HO537.out)
      have n2_ := Aside0.mk (blk_drew BK524.out)
      have n3_ := Aside0.mk (below_drew1 HB.out)
      clear HO532
      clear HO537
      clear BK524
      clear HB
      have HO532 := n0_
      have HO537 := n1_
      have BK524 := n2_
      have HB := n3_
      clear n0_ n1_ n2_ n3_
      obtain ⟨Ao33, co33, eo33⟩ := Kd.R_slice HO537.out
      (first | subst eo33 | (injection eo33 with f1_ f2_ f3_; have f4_ := f1_.symm; have f5_ := f3_.symm; clear f1_ f2_ f3_; subst f4_; subst f5_))
      have p538 : 0 ≤ (0 : Int) := (by omega)
      have q538 : 0 < (t533.length : Int) := odA
      obtain ⟨ad538, e538, hx538_0, hx538_1, hx538_2⟩ := at_T101 (Kd.R_reads' HO537.out).2.2 0 p538 q538
      cases e538
      have qi538 : (0 < t533.length) = True := eq_true (by omega)
      (try rw [show ((0 : Int)).toNat = 0 from rfl] at hx538_0)
      (try rw [show 0 * 3 = 0 from rfl] at hx538_0)
      (try rw [Addr.add_zero'] at hx538_0)
      (try rw [show ((0 : Int)).toNat = 0 from rfl] at hx538_1)
      (try rw [show 0 * 3 = 0 from rfl] at hx538_1)
      (try rw [Addr.add_zero'] at hx538_1)
      (try rw [show ((0 : Int)).toNat = 0 from rfl] at hx538_2)
      (try rw [show 0 * 3 = 0 from rfl] at hx538_2)
      (try rw [Addr.add_zero'] at hx538_2)
      replace p538 := eq_true p538
      replace q538 := eq_true q538
      have p539 : 0 ≤ (0 : Int) := (by omega)
      have q539 : 0 < (t533.length : Int) := odA
      obtain ⟨ad539, e539, hx539_0, hx539_1, hx539_2⟩ := at_T101 (Kd.R_reads' HO537.out).2.2 0 p539 q539
      obtain rfl : ad538 = ad539 := (by injection e539)
      have qi539 : (0 < t533.length) = True := eq_true (by omega)
      (try rw [show ((0 : Int)).toNat = 0 from rfl] at hx539_0)
      (try rw [show 0 * 3 = 0 from rfl] at hx539_0)
      (try rw [Addr.add_zero'] at hx539_0)
      (try rw [show ((0 : Int)).toNat = 0 from rfl] at hx539_1)
      (try rw [show 0 * 3 = 0 from rfl] at hx539_1)
      (try rw [Addr.add_zero'] at hx539_1)
      (try rw [show ((0 : Int)).toNat = 0 from rfl] at hx539_2)
      (try rw [show 0 * 3 = 0 from rfl] at hx539_2)
      (try rw [Addr.add_zero'] at hx539_2)
      replace p539 := eq_true p539
      replace q539 := eq_true q539
      refine start_ (n := 11) (S := fun w' => w'.cell? ad538 = some (.int .i64 ((rd_T101 t533 0).f0)) ∧ w'.cell? ⟨ad538.block, ad538.off + 1, none⟩ = some (.int .i64 ((rd_T101 t533 0).f1)) ∧ w'.cell? ⟨ad538.block, ad538.off + 2, none⟩ = some (.string ((rd_T101 t533 0).f2)) ∧ w'.cell? ad538 = some (.int .i64 ((rd_T101 t533 0).f0)) ∧ w'.cell? ⟨ad538.block, ad538.off + 1, none⟩ = some (.int .i64 ((rd_T101 t533 0).f1)) ∧ w'.cell? ⟨ad538.block, ad538.off + 2, none⟩ = some (.string ((rd_T101 t533 0).f2))) (ds := []) (mkB 11 0) (by kernel_rfl) rfl rfl ⟨hx538_0, hx538_1, hx538_2, hx539_0, hx539_1, hx539_2⟩ (fun hHeld => ?_); refine with_tabW value_Read.tab9 value_Read.bits9 (fun HT_ HW_ => ?_)
      generalize w31.drew = w32 at HO532 HO537 BK524 HB hx538_0 hx538_1 hx538_2 hx539_0 hx539_1 hx539_2 hHeld ⊢
      refine pureA 0 (some 34) (mkB 11 1) ?_
      refine pureA 1 (some 35) (mkB 11 3) ?_
      refine pureA 2 (some 36) (mkB 11 7) ?_
      refine pureA 3 (some 37) (mkB 11 15) ?_
      refine pureA 5 (some 39) (mkB 11 47) ?_
      refine pureA 6 (some 40) (mkB 11 111) ?_
      refine pureA 7 (some 41) (mkB 11 239) ?_
      refine takeA 4 (some 38) (mkB 11 255) ?_ rfl (Or.inl ⟨by rfl, by rintro w' ⟨s0, s1, s2, s3, s4, s5⟩; go_simp; with_reducible rfl⟩)
      refine takeA 8 (some 42) (mkB 11 511) ?_ rfl (Or.inl ⟨by rfl, by rintro w' ⟨s0, s1, s2, s3, s4, s5⟩; go_simp; with_reducible rfl⟩)
      refine pureA 9 (some 43) (mkB 11 1023) ?_
      refine oneA 10 (none) (mkB 11 2047) (fun K hK => ?_)
      have hs34 : w32.cell? ⟨gb524, 0, none⟩ = some (.int .i64 0) := (blk_cell BK524.out 0).trans rfl
      have hfs34 := blk_frozen BK524.out 0
      have hs35 : w32.cell? ⟨gb524, 1, none⟩ = some (.int .i64 0) := (blk_cell BK524.out 1).trans rfl
      have hfs35 := blk_frozen BK524.out 1
      have hs36 : w32.cell? ⟨gb524, 2, none⟩ = some (.string (⟨#[]⟩ : ByteArray)) := (blk_cell BK524.out 2).trans rfl
      have hfs36 := blk_frozen BK524.out 2
      refine skip_ (w1 := ?_) (by rfl) rfl ?_ ?_
      rotate_left
      ·go_simp
       rfl
      have nz0_ := Aside0.mk (Kd.own_blk (Kd.R_ne HO537.out BK524.out (by decide)))
      refine hK.out _ _ ⟨far3 nz0_.out hHeld.1, far3 nz0_.out hHeld.2.1, far3 nz0_.out hHeld.2.2.1, far3 nz0_.out hHeld.2.2.2.1, far3 nz0_.out hHeld.2.2.2.2.1, far3 nz0_.out hHeld.2.2.2.2.2⟩ (fun hHeld => ?_)
      clear hK K
      refine done_ (done_of HT_.out (by kernel_rfl)) ?_
      have hcz37_0 : w32.cell? ⟨gb524, 0, none⟩ = some (.int .i64 0) := (blk_cell BK524.out 0).trans rfl
      have hcz37_1 : w32.cell? ⟨gb524, 1, none⟩ = some (.int .i64 0) := (blk_cell BK524.out 1).trans rfl
      have hcz37_2 : w32.cell? ⟨gb524, 2, none⟩ = some (.string (⟨#[]⟩ : ByteArray)) := (blk_cell BK524.out 2).trans rfl
      have hfz37_0 := blk_frozen BK524.out 0
      have hfz37_1 := blk_frozen BK524.out 1
      have hfz37_2 := blk_frozen BK524.out 2
      try go_wp2_with (first | ((with_reducible refine gate_callee (f := 52) rfl ?_); refine goesA (some 45) Tryz.func52 #[.agg #[.int .i64 t525, .int .i64 ((rd_T101 t533 0).f1), .string ((rd_T101 t533 0).f2)]] ?_; (with_reducible refine (value_Check.calls t525 ((rd_T101 t533 0).f1) ((rd_T101 t533 0).f2) false _ ?side1 A12.out).mono ?_); (case side1 => exact Tabs.below HT.out (bwA)); rintro e w38 ⟨rfl, hb⟩; refine ⟨_, rfl, ?_⟩; have n0_ := Aside0.mk (Kd.R_below (by (with_reducible repeat (first | apply Kd.R_alloc | apply Kd.R_drewN | apply Kd.R_drew)); exact (Kd.R_mono (Kd.R_far (p := ⟨gb524, 2, none⟩) (Kd.R_far (p := ⟨gb524, 1, none⟩) (Kd.R_far (p := ⟨gb524, 0, none⟩) (Kd.R_types HO532.out BK524.out (by decide)) (fun _ hk => hk.2) (.int .i64 t525)) (fun _ hk => hk.2) (.int .i64 ((rd_T101 t533 0).f1))) (fun _ hk => hk.2) (.string ((rd_T101 t533 0).f2))) (fun _ h_ => h_.1))) hb); have n1_ := Aside0.mk (Kd.R_below (by (with_reducible repeat (first | apply Kd.R_alloc | apply Kd.R_drewN | apply Kd.R_drew)); exact (Kd.R_mono (Kd.R_far (p := ⟨gb524, 2, none⟩) (Kd.R_far (p := ⟨gb524, 1, none⟩) (Kd.R_far (p := ⟨gb524, 0, none⟩) (Kd.R_types HO537.out BK524.out (by decide)) (fun _ hk => hk.2) (.int .i64 t525)) (fun _ hk => hk.2) (.int .i64 ((rd_T101 t533 0).f1))) (fun _ hk => hk.2) (.string ((rd_T101 t533 0).f2))) (fun _ h_ => h_.1))) hb); have n2_ := Aside0.mk (blk_below (g := gb524) (o := .cells #[.int .i64 t525, .int .i64 ((rd_T101 t533 0).f1), .string ((rd_T101 t533 0).f2)] 37 (0, 0)) (by (with_reducible repeat (first | refine blk_drewN ?_ _ | refine blk_drew ?_ | refine blk_alloc ?_ _)); refine blk_put (cs := #[.int .i64 t525, .int .i64 ((rd_T101 t533 0).f1), .string (⟨#[]⟩ : ByteArray)]) ?_ 2 _ rfl; (with_reducible repeat (first | refine blk_drewN ?_ _ | refine blk_drew ?_ | refine blk_alloc ?_ _)); refine blk_put (cs := #[.int .i64 t525, .int .i64 0, .string (⟨#[]⟩ : ByteArray)]) ?_ 1 _ rfl; (with_reducible repeat (first | refine blk_drewN ?_ _ | refine blk_drew ?_ | refine blk_alloc ?_ _)); refine blk_put (cs := #[.int .i64 0, .int .i64 0, .string (⟨#[]⟩ : ByteArray)]) ?_ 0 _ rfl; (with_reducible repeat (first | refine blk_drewN ?_ _ | refine blk_drew ?_ | refine blk_alloc ?_ _)); exact BK524.out) hb); have n3_ := Aside0.mk (below_step (bwA) hb); clear HO532; clear HO537; clear BK524; clear HB; have HO532 := n0_; have HO537 := n1_; have BK524 := n2_; have HB := n3_; clear n0_ n1_ n2_ n3_; (try clear hb); (try clear hb2); (try clear hk); (try clear hi); have hcz39_0 : w38.cell? ⟨gb524, 0, none⟩ = some (.int .i64 t525) := (blk_cell BK524.out 0).trans rfl; have hcz39_1 : w38.cell? ⟨gb524, 1, none⟩ = some (.int .i64 ((rd_T101 t533 0).f1)) := (blk_cell BK524.out 1).trans rfl; have hcz39_2 : w38.cell? ⟨gb524, 2, none⟩ = some (.string ((rd_T101 t533 0).f2)) := (blk_cell BK524.out 2).trans rfl; have hfz39_0 := blk_frozen BK524.out 0; have hfz39_1 := blk_frozen BK524.out 1; have hfz39_2 := blk_frozen BK524.out 2))
      refine bodyPost_ret (results_ctt rfl _ _ gb524 37 #[.int .i64 0, .int .i64 0, .string (⟨#[]⟩ : ByteArray)] (0, 0) _ rfl (by (with_reducible repeat (first | refine blk_drewN ?_ _ | refine blk_drew ?_ | refine blk_alloc ?_ _)); refine blk_put (cs := #[.int .i64 0, .int .i64 0, .string ((rd_T101 t533 0).f2)]) ?_ 2 _ rfl; (with_reducible repeat (first | refine blk_drewN ?_ _ | refine blk_drew ?_ | refine blk_alloc ?_ _)); refine blk_put (cs := #[.int .i64 0, .int .i64 ((rd_T101 t533 0).f1), .string ((rd_T101 t533 0).f2)]) ?_ 1 _ rfl; (with_reducible repeat (first | refine blk_drewN ?_ _ | refine blk_drew ?_ | refine blk_alloc ?_ _)); refine blk_put (cs := #[.int .i64 t525, .int .i64 ((rd_T101 t533 0).f1), .string ((rd_T101 t533 0).f2)]) ?_ 0 _ rfl; (with_reducible repeat (first | refine blk_drewN ?_ _ | refine blk_drew ?_ | refine blk_alloc ?_ _)); exact BK524.out) Tryz.underlying37 rfl (by kernel_rfl)) rfl ?_
      exact ⟨endA, bwA⟩
    ·rw [if_neg c11] at H
     exact absurd H (by simp)
   ·rw [if_neg c10] at H
    have c10b0 : (t535 == 0) = false := beq_eq_false_iff_ne.mpr c10
    have c10b1 : (t535 != 0) = true := bne_iff_ne.mpr c10
    simp only [Option.some.injEq, Prod.mk.injEq] at H
    obtain ⟨rfl, rfl, rfl, rfl, rfl⟩ := H
    go_enter Tryz.func70, Tryz.ntmps70
    go_wp2_with (first | ((with_reducible refine gate_dst (N := 2) rfl ?_); refine box_event ?hg (N := 2) ?hd (cs := #[.int .i64 0, .int .i64 0, .string (⟨#[]⟩ : ByteArray)]) (t := 37) ?hr ?_; (case hd => rfl); (case hg => rfl); (case hr => first | (go_simp; done) | (go_simp; rfl)); intro gb524 hg w40 hbox hb; have n0_ := Aside0.mk (below_step (bwA) hb); have n1_ := Aside0.mk (hbox); have n2_ := Aside0.mk ((by rw [hg]; exact (below_size (bwA)) : w.heap.size ≤ gb524)); have n3_ := Aside0.mk ((by rw [hg]; exact (below_size (bwA)) : w.heap.size ≤ gb524)); clear HB; have HB := n0_; have BK524 := n1_; have GW524 := n2_; have GE524 := n3_; clear n0_ n1_ n2_ n3_; clear hb hbox hg) | ((with_reducible refine gate_callee (f := 62) rfl ?_); refine goesA (some 9) Tryz.func62 #[.string a0] ?_; (with_reducible refine (quic_Get.calls k a0 t525 t526 t527 _ A2.out).mono ?_); rintro e w' ⟨rfl, ⟨nd, rfl⟩⟩; refine ⟨_, rfl, ?_⟩; (try (rw [drewN_self w40]; generalize hq_ : World.drewN w40 _ = w40; have n0_ : Aside0 (w40.heap[gb524]? = some (.cells #[.int .i64 0, .int .i64 0, .string (⟨#[]⟩ : ByteArray)] 37 (0, 0))) := ⟨by rw [← hq_]; exact blkA⟩; have n1_ : Aside0 (Below w.heap.size w w40) := ⟨by rw [← hq_]; exact (bwA)⟩; clear BK524 HB hq_; have BK524 := n0_; have HB := n1_; clear n0_ n1_))) | ((with_reducible refine gate_callee (f := 96) rfl ?_); refine goesA (some 18) Tryz.func96 #[.int .i64 t525] ?_; (with_reducible refine (value_how.calls t525 t528 _ A4.out).mono ?_); rintro e w' ⟨rfl, ⟨nd, rfl⟩⟩; refine ⟨_, rfl, ?_⟩; (try (rw [drewN_self w40]; generalize hq_ : World.drewN w40 _ = w40; have n0_ : Aside0 (w40.heap[gb524]? = some (.cells #[.int .i64 0, .int .i64 0, .string (⟨#[]⟩ : ByteArray)] 37 (0, 0))) := ⟨by rw [← hq_]; exact blkA⟩; have n1_ : Aside0 (Below w.heap.size w w40) := ⟨by rw [← hq_]; exact (bwA)⟩; clear BK524 HB hq_; have BK524 := n0_; have HB := n1_; clear n0_ n1_))) | ((with_reducible refine gate_callee (f := 96) rfl ?_); refine goesA (some 24) Tryz.func96 #[.int .i64 t525] ?_; (with_reducible refine (value_how.calls t525 t529 _ A8.out).mono ?_); rintro e w' ⟨rfl, ⟨nd, rfl⟩⟩; refine ⟨_, rfl, ?_⟩; (try (rw [drewN_self w40]; generalize hq_ : World.drewN w40 _ = w40; have n0_ : Aside0 (w40.heap[gb524]? = some (.cells #[.int .i64 0, .int .i64 0, .string (⟨#[]⟩ : ByteArray)] 37 (0, 0))) := ⟨by rw [← hq_]; exact blkA⟩; have n1_ : Aside0 (Below w.heap.size w w40) := ⟨by rw [← hq_]; exact (bwA)⟩; clear BK524 HB hq_; have BK524 := n0_; have HB := n1_; clear n0_ n1_))) | ((with_reducible refine gate_dst (N := 25) rfl ?_); refine Kd.R_lit (Kd.int .i64) _ 3 ?hg (N := 25) ?hd (xs := ([t529] : List Int)) (inner := [.int .i64 t529]) (ok := fun _ => True) (okp := fun _ => True) ?hr ?hp (fun _ hk => hk) trivial (Below.refl _ _) (Nat.le_refl _) (by simp) ?_; (case hd => rfl); (case hg => rfl); (case hr => first | (go_simp; done) | (go_simp; rfl)); (case hp => exact (Reps.one (show Kd.M (Kd.int .i64) _ _ _ t529 [.int .i64 t529] from rfl) (Reps.none _ _))); intro v531 w41 ho42 hb hg_ hnew_; clear hg_ hnew_; (first | rw [← Ny530.out] at ho42 | (simp only [Int.reduceToNat] at ho42; rw [← Ny530.out] at ho42)); have n0_ := Aside0.mk (Kd.R_lower ho42 (below_size (bwA))); have n1_ := Aside0.mk (blk_below (g := gb524) (o := .cells #[.int .i64 0, .int .i64 0, .string (⟨#[]⟩ : ByteArray)] 37 (0, 0)) blkA hb); have n2_ := Aside0.mk (below_step (bwA) hb); clear BK524; clear HB; have HO532 := n0_; have BK524 := n1_; have HB := n2_; clear n0_ n1_ n2_; clear hb ho42; obtain ⟨Ao43, co43, eo43⟩ := Kd.R_slice HO532.out; subst eo43) | ((with_reducible refine gate_callee (f := 63) rfl ?_); refine goesA (some 26) Tryz.func63 #[.string t526, .slice Ao43 y530.length co43] ?_; (with_reducible refine (quic_Take.calls k t526 _ _ y530 t533 t534 t535 _ ?side1 ?side2 A9.out).mono ?_); (case side1 => repeat (first | exact (Kd.R_reads' HO532.out).2.2 | (with_reducible refine Kd.C_alloc ?_ _) | (with_reducible refine Kd.C_drewN ?_ _) | (with_reducible refine Kd.C_drew ?_))); (case side2 => exact (Kd.R_reads' HO532.out).2.1); rintro e w44 ⟨v536, rfl, ho0, hb⟩; refine ⟨_, rfl, ?_⟩; have n0_ := Aside0.mk (Kd.R_below (by (with_reducible repeat (first | apply Kd.R_alloc | apply Kd.R_drewN | apply Kd.R_drew)); exact HO532.out) hb); have n1_ := Aside0.mk (Kd.R_lower ho0 (below_size (bwA))); have n2_ := Aside0.mk (blk_below (g := gb524) (o := .cells #[.int .i64 0, .int .i64 0, .string (⟨#[]⟩ : ByteArray)] 37 (0, 0)) blkA hb); have n3_ := Aside0.mk (below_step (bwA) hb); clear HO532; clear BK524; clear HB; have HO532 := n0_; have HO537 := n1_; have BK524 := n2_; have HB := n3_; clear n0_ n1_ n2_ n3_; (try clear hb); (try clear hb2); (try clear hk); (try clear hi); (try clear ho0); have hcz45_0 : w44.cell? ⟨gb524, 0, none⟩ = some (.int .i64 0) := (blk_cell BK524.out 0).trans rfl; have hcz45_1 : w44.cell? ⟨gb524, 1, none⟩ = some (.int .i64 0) := (blk_cell BK524.out 1).trans rfl; have hcz45_2 : w44.cell? ⟨gb524, 2, none⟩ = some (.string (⟨#[]⟩ : ByteArray)) := (blk_cell BK524.out 2).trans rfl; have hfz45_0 := blk_frozen BK524.out 0; have hfz45_1 := blk_frozen BK524.out 1; have hfz45_2 := blk_frozen BK524.out 2))
    refine bodyPost_ret (results_ctt rfl _ _ gb524 37 #[.int .i64 0, .int .i64 0, .string (⟨#[]⟩ : ByteArray)] (0, 0) _ rfl (by (with_reducible repeat (first | refine blk_drewN ?_ _ | refine blk_drew ?_ | refine blk_alloc ?_ _)); refine blk_put (cs := #[.int .i64 0, .int .i64 0, .string (⟨#[]⟩ : ByteArray)]) ?_ 2 _ rfl; (with_reducible repeat (first | refine blk_drewN ?_ _ | refine blk_drew ?_ | refine blk_alloc ?_ _)); refine blk_put (cs := #[.int .i64 0, .int .i64 0, .string (⟨#[]⟩ : ByteArray)]) ?_ 1 _ rfl; (with_reducible repeat (first | refine blk_drewN ?_ _ | refine blk_drew ?_ | refine blk_alloc ?_ _)); refine blk_put (cs := #[.int .i64 0, .int .i64 0, .string (⟨#[]⟩ : ByteArray)]) ?_ 0 _ rfl; (with_reducible repeat (first | refine blk_drewN ?_ _ | refine blk_drew ?_ | refine blk_alloc ?_ _)); exact BK524.out) Tryz.underlying37 rfl (by kernel_rfl)) rfl ?_
    exact ⟨endA, bwA⟩
 ·rw [if_neg c3] at H
  have c3b0 : (t527 == 0) = false := beq_eq_false_iff_ne.mpr c3
  have c3b1 : (t527 != 0) = true := bne_iff_ne.mpr c3
  simp only [Option.some.injEq, Prod.mk.injEq] at H
  obtain ⟨rfl, rfl, rfl, rfl, rfl⟩ := H
  go_enter Tryz.func70, Tryz.ntmps70
  go_wp2_with (first | ((with_reducible refine gate_dst (N := 2) rfl ?_); refine box_event ?hg (N := 2) ?hd (cs := #[.int .i64 0, .int .i64 0, .string (⟨#[]⟩ : ByteArray)]) (t := 37) ?hr ?_; (case hd => rfl); (case hg => rfl); (case hr => first | (go_simp; done) | (go_simp; rfl)); intro gb524 hg w46 hbox hb; have n0_ := Aside0.mk (below_step (bwA) hb); have n1_ := Aside0.mk (hbox); have n2_ := Aside0.mk ((by rw [hg]; exact (below_size (bwA)) : w.heap.size ≤ gb524)); have n3_ := Aside0.mk ((by rw [hg]; exact (below_size (bwA)) : w.heap.size ≤ gb524)); clear HB; have HB := n0_; have BK524 := n1_; have GW524 := n2_; have GE524 := n3_; clear n0_ n1_ n2_ n3_; clear hb hbox hg) | ((with_reducible refine gate_callee (f := 62) rfl ?_); refine goesA (some 9) Tryz.func62 #[.string a0] ?_; (with_reducible refine (quic_Get.calls k a0 t525 t526 t527 _ A2.out).mono ?_); rintro e w' ⟨rfl, ⟨nd, rfl⟩⟩; refine ⟨_, rfl, ?_⟩; (try (rw [drewN_self w46]; generalize hq_ : World.drewN w46 _ = w46; have n0_ : Aside0 (w46.heap[gb524]? = some (.cells #[.int .i64 0, .int .i64 0, .string (⟨#[]⟩ : ByteArray)] 37 (0, 0))) := ⟨by rw [← hq_]; exact blkA⟩; have n1_ : Aside0 (Below w.heap.size w w46) := ⟨by rw [← hq_]; exact (bwA)⟩; clear BK524 HB hq_; have BK524 := n0_; have HB := n1_; clear n0_ n1_)); have hcz47_0 : w46.cell? ⟨gb524, 0, none⟩ = some (.int .i64 0) := (blk_cell BK524.out 0).trans rfl; have hcz47_1 : w46.cell? ⟨gb524, 1, none⟩ = some (.int .i64 0) := (blk_cell BK524.out 1).trans rfl; have hcz47_2 : w46.cell? ⟨gb524, 2, none⟩ = some (.string (⟨#[]⟩ : ByteArray)) := (blk_cell BK524.out 2).trans rfl; have hfz47_0 := blk_frozen BK524.out 0; have hfz47_1 := blk_frozen BK524.out 1; have hfz47_2 := blk_frozen BK524.out 2))
  refine bodyPost_ret (results_ctt rfl _ _ gb524 37 #[.int .i64 0, .int .i64 0, .string (⟨#[]⟩ : ByteArray)] (0, 0) _ rfl (by (with_reducible repeat (first | refine blk_drewN ?_ _ | refine blk_drew ?_ | refine blk_alloc ?_ _)); refine blk_put (cs := #[.int .i64 0, .int .i64 0, .string (⟨#[]⟩ : ByteArray)]) ?_ 2 _ rfl; (with_reducible repeat (first | refine blk_drewN ?_ _ | refine blk_drew ?_ | refine blk_alloc ?_ _)); refine blk_put (cs := #[.int .i64 0, .int .i64 0, .string (⟨#[]⟩ : ByteArray)]) ?_ 1 _ rfl; (with_reducible repeat (first | refine blk_drewN ?_ _ | refine blk_drew ?_ | refine blk_alloc ?_ _)); refine blk_put (cs := #[.int .i64 0, .int .i64 0, .string (⟨#[]⟩ : ByteArray)]) ?_ 0 _ rfl; (with_reducible repeat (first | refine blk_drewN ?_ _ | refine blk_drew ?_ | refine blk_alloc ?_ _)); exact BK524.out) Tryz.underlying37 rfl (by kernel_rfl)) rfl ?_
  exact ⟨endA, bwA⟩

end Go.Proofs.YtnbbajiabbmdmaaGreatDoor.A
