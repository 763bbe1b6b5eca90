-- By drv.py, the session's own driver round the kit's print: the machine's side of the laws, function by function. Not trusted: Lean checks it.
import Derived.Test.YtoajlmmkkcelgaaDoorAx0
import Derived.Test.YtoajlmmkkcelgaaDoorAx26
import Derived.Test.YtoajlmmkkcelgaaDoorAx28
import Derived.Test.YtoajlmmkkcelgaaDoorAx31
namespace Go.Proofs.YtoajlmmkkcelgaaDoor.A
open Go.RowKit Go.Proofs.YtoajlmmkkcelgaaDoorW.PrintWords Go.Proofs.YtoajlmmkkcelgaaDoorW.PrintLast Go.Proofs.YtoajlmmkkcelgaaDoorW.PrintMore
attribute [local go_sem] max2_int min2_int max_two min_two max_three min_three max_four min_four   -- for this text's walks alone
set_option linter.unusedVariables false
set_option linter.unusedSimpArgs false

/-! ### caduceusref03_Read: function 36 -/
mutual
def caduceusref03_Read.j0 : Nat → Int → Int → ByteArray → ByteArray → Int → Option (Int × Int × ByteArray × ByteArray × Int)
 | 0, _, _, _, _, _ => none
 | k + 1, x4, x422000, x422001, x422002, x422003 => if x422000 = 3 then (caduceusref03_Read.j1 k 3 x422000 x422001 x422002 x422003) else (caduceusref03_Read.j1 k x4 x422000 x422001 x422002 x422003)
def caduceusref03_Read.j1 : Nat → Int → Int → ByteArray → ByteArray → Int → Option (Int × Int × ByteArray × ByteArray × Int)
 | 0, _, _, _, _, _ => none
 | k + 1, x4, x422000, x422001, x422002, x422003 => if x422000 < 1 then (caduceusref03_Read.j2 k x4 true x422000 x422001 x422002 x422003) else (caduceusref03_Read.j2 k x4 (decide (x422000 > 4)) x422000 x422001 x422002 x422003)
def caduceusref03_Read.j2 : Nat → Int → Bool → Int → ByteArray → ByteArray → Int → Option (Int × Int × ByteArray × ByteArray × Int)
 | 0, _, _, _, _, _, _ => none
 | k + 1, x4, x28, x422000, x422001, x422002, x422003 => if x28 = true then (some (0, 0, (⟨#[]⟩ : ByteArray), (⟨#[]⟩ : ByteArray), 8)) else ((caduceusref01_Take.f k x422002 (([x4] : List Int))).bind fun bt425 => (if bt425.2.2 = 0 then (if 0 < (bt425.1.length : Int) then ((caduceusref03_Check.f k x422000 ((rd_T99 bt425.1 0).f1) ((rd_T99 bt425.1 0).f2)).bind fun t434 => (if t434 = true then (some (x422000, (rd_T99 bt425.1 0).f1, (rd_T99 bt425.1 0).f2, bt425.2.1, 0)) else (some (0, 0, (⟨#[]⟩ : ByteArray), (⟨#[]⟩ : ByteArray), 3)))) else (none)) else (some (0, 0, (⟨#[]⟩ : ByteArray), (⟨#[]⟩ : ByteArray), bt425.2.2))))
end
def caduceusref03_Read.f (k : Nat) (a0 : ByteArray) : Option (Int × Int × ByteArray × ByteArray × Int) := (caduceusref01_Get.f k a0).bind fun bt417 => (if bt417.2.2.2 = 0 then (if bt417.1 = 1 then (caduceusref03_Read.j0 k 2 bt417.1 bt417.2.1 bt417.2.2.1 bt417.2.2.2) else (caduceusref03_Read.j0 k 4 bt417.1 bt417.2.1 bt417.2.2.1 bt417.2.2.2)) else (some (0, 0, (⟨#[]⟩ : ByteArray), (⟨#[]⟩ : ByteArray), bt417.2.2.2)))
theorem caduceusref03_Read.mono_l : ∀ k, (∀ y0 y1 y2 y3 y4, LeO (caduceusref03_Read.j0 k y0 y1 y2 y3 y4) (caduceusref03_Read.j0 (k + 1) y0 y1 y2 y3 y4)) ∧ (∀ y0 y1 y2 y3 y4, LeO (caduceusref03_Read.j1 k y0 y1 y2 y3 y4) (caduceusref03_Read.j1 (k + 1) y0 y1 y2 y3 y4)) ∧ (∀ y0 y1 y2 y3 y4 y5, LeO (caduceusref03_Read.j2 k y0 y1 y2 y3 y4 y5) (caduceusref03_Read.j2 (k + 1) y0 y1 y2 y3 y4 y5))
 | 0 => ⟨fun _ _ _ _ _ r h => by simp [caduceusref03_Read.j0] at h, fun _ _ _ _ _ r h => by simp [caduceusref03_Read.j1] at h, fun _ _ _ _ _ _ r h => by simp [caduceusref03_Read.j2] at h⟩
 | k + 1 => by
  obtain ⟨ih0, ih1, ih2⟩ := caduceusref03_Read.mono_l k
  refine ⟨?_, ?_, ?_⟩
  all_goals intros
  all_goals first | unfold caduceusref03_Read.j0 | unfold caduceusref03_Read.j1 | unfold caduceusref03_Read.j2
  all_goals repeat' first
   | (with_reducible exact ih0 _ _ _ _ _)
   | (with_reducible exact ih1 _ _ _ _ _)
   | (with_reducible exact ih2 _ _ _ _ _ _)
   | (with_reducible exact caduceusref01_Get.mono _ _)
   | (with_reducible exact caduceusref01_Take.mono _ _ _)
   | (with_reducible exact caduceusref03_Check.mono _ _ _ _)
   | (with_reducible exact LeO.refl _)
   | (with_reducible exact LeO.none _)
   | (with_reducible refine LeO.ite ?_ ?_)
   | (with_reducible refine LeO.bind ?_ (fun _ => ?_))
   | exact ih0 _ _ _ _ _
   | exact ih1 _ _ _ _ _
   | exact ih2 _ _ _ _ _ _
   | exact caduceusref01_Get.mono _ _
   | exact caduceusref01_Take.mono _ _ _
   | exact caduceusref03_Check.mono _ _ _ _
   | exact LeO.none _
   | refine LeO.ite ?_ ?_
   | refine LeO.bind ?_ (fun _ => ?_)
theorem caduceusref03_Read.mono : ∀ a0 k, LeO (caduceusref03_Read.f k a0) (caduceusref03_Read.f (k + 1) a0) := by
 intro a0 k
 obtain ⟨ih0, ih1, ih2⟩ := caduceusref03_Read.mono_l k
 unfold caduceusref03_Read.f
 repeat' first
   | (with_reducible exact ih0 _ _ _ _ _)
   | (with_reducible exact ih1 _ _ _ _ _)
   | (with_reducible exact ih2 _ _ _ _ _ _)
   | (with_reducible exact caduceusref01_Get.mono _ _)
   | (with_reducible exact caduceusref01_Take.mono _ _ _)
   | (with_reducible exact caduceusref03_Check.mono _ _ _ _)
   | (with_reducible exact LeO.refl _)
   | (with_reducible exact LeO.none _)
   | (with_reducible refine LeO.ite ?_ ?_)
   | (with_reducible refine LeO.bind ?_ (fun _ => ?_))
   | exact ih0 _ _ _ _ _
   | exact ih1 _ _ _ _ _
   | exact ih2 _ _ _ _ _ _
   | exact caduceusref01_Get.mono _ _
   | exact caduceusref01_Take.mono _ _ _
   | exact caduceusref03_Check.mono _ _ _ _
   | exact LeO.none _
   | refine LeO.ite ?_ ?_
   | refine LeO.bind ?_ (fun _ => ?_)
def caduceusref03_Read.T14 : Bool × List (List Nat × List Nat) := (true, [([], []), ([0], [0]), ([], []), ([2], [2]), ([3], [3]), ([4], [4]), ([5], [5]), ([], []), ([7], [7]), ([8], [8]), ([9], [9]), ([10], [10]), ([1, 6, 11], [1, 6, 11]), ([], []), ([13, 12, 0, 1, 2, 3, 4, 5, 6, 7, 8, 9, 10, 11, 12, 13], [12, 13])])
def caduceusref03_Read.B14 : List Nat := [0, 1, 0, 4, 12, 28, 60, 0, 128, 384, 896, 1920, 4095, 0, 16383]
theorem caduceusref03_Read.tab14 : rtab .any (opsOf Tryd.f36 14) = caduceusref03_Read.T14 := by kernel_rfl
theorem caduceusref03_Read.bits14 : waitsOk caduceusref03_Read.T14.2 caduceusref03_Read.B14 = true := by kernel_rfl
set_option maxHeartbeats 8000000 in
set_option maxRecDepth 100000 in
theorem caduceusref03_Read.calls (k : Nat) (a0 : ByteArray) (r1 : Int) (r2 : Int) (r3 : ByteArray) (r4 : ByteArray) (r5 : Int) (w : World) (h : caduceusref03_Read.f k a0 = some (r1, r2, r3, r4, r5)) :
  Calls Tryd.prog 36 #[.string a0] w fun e w' => e = .returned (.agg #[.int .i64 r1, .int .i64 r2, .string r3, .string r4, .int .i64 r5]) ∧ Below w.heap.size w w' := by
 have hu31 := Tryd.underlying31
 have hu93 := Tryd.underlying93
 have hu97 := Tryd.underlying97
 have hu29 := Tryd.underlying29
 have HB := Aside0.mk (Below.refl w.heap.size w)
 have H : ((caduceusref01_Get.f k a0).bind fun bt417 => (if bt417.2.2.2 = 0 then (if bt417.1 = 1 then (caduceusref03_Read.j0 k 2 bt417.1 bt417.2.1 bt417.2.2.1 bt417.2.2.2) else (caduceusref03_Read.j0 k 4 bt417.1 bt417.2.1 bt417.2.2.1 bt417.2.2.2)) else (some (0, 0, (⟨#[]⟩ : ByteArray), (⟨#[]⟩ : ByteArray), bt417.2.2.2)))) = some (r1, r2, r3, r4, r5) := h
 clear h
 replace H := Option.bind_eq_some_iff.mp H
 obtain ⟨⟨t417, t418, t419, t420⟩, A20, H⟩ := H
 replace H : (if t420 = 0 then (if t417 = 1 then (caduceusref03_Read.j0 k 2 t417 t418 t419 t420) else (caduceusref03_Read.j0 k 4 t417 t418 t419 t420)) else (some (0, 0, (⟨#[]⟩ : ByteArray), (⟨#[]⟩ : ByteArray), t420))) = some (r1, r2, r3, r4, r5) := H
 have A2 := Aside0.mk A20
 clear A20
 by_cases c3 : t420 = 0
 ·rw [if_pos c3] at H
  have c3b0 : (t420 == 0) = true := beq_iff_eq.mpr c3
  have c3b1 : (t420 != 0) = false := bne_eq_false_iff_eq.mpr c3
  clear c3
  have HC4 := Aside0.mk H
  clear H
  go_enter Tryd.func36, Tryd.ntmps36
  go_upto_if 17 with (first | ((with_reducible refine gate_dst (N := 2) rfl ?_); refine box_event ?hg (N := 2) ?hd (cs := #[.int .i64 0, .int .i64 0, .string (⟨#[]⟩ : ByteArray), .string (⟨#[]⟩ : ByteArray), .int .i64 0]) (t := 31) ?hr ?_; (case hd => rfl); (case hg => rfl); (case hr => first | (go_simp; done) | (go_simp; rfl)); intro gb416 hg w5 hbox hb; have n0_ := Aside0.mk (below_step bwA hb); have n1_ := Aside0.mk (hbox); have n2_ := Aside0.mk ((by rw [hg]; exact (below_size bwA) : w.heap.size ≤ gb416)); have n3_ := Aside0.mk ((by rw [hg]; exact (below_size bwA) : w.heap.size ≤ gb416)); clear HB; have HB := n0_; have BK416 := n1_; have GW416 := n2_; have GE416 := n3_; clear n0_ n1_ n2_ n3_; clear hb hbox hg) | ((with_reducible refine gate_callee (f := 64) rfl ?_); refine goesA (some 8) Tryd.func64 #[.string a0] ?_; (with_reducible refine (caduceusref01_Get.calls k a0 t417 t418 t419 t420 _ A2.out).mono ?_); rintro e w6 ⟨rfl, hb⟩; refine ⟨_, rfl, ?_⟩; have n0_ := Aside0.mk (blk_below (g := gb416) (o := .cells #[.int .i64 0, .int .i64 0, .string (⟨#[]⟩ : ByteArray), .string (⟨#[]⟩ : ByteArray), .int .i64 0] 31 (0, 0)) blkA hb); have n1_ := Aside0.mk (below_step bwA hb); clear BK416; clear HB; have BK416 := n0_; have HB := n1_; clear n0_ n1_; (try clear hb); (try clear hb2); (try clear hk); (try clear hi)) | ((with_reducible refine gate_dst (N := 3) rfl ?_); refine box_event ?hg (N := 3) ?hd (cs := #[.int .i64 0, .string (⟨#[]⟩ : ByteArray), .string (⟨#[]⟩ : ByteArray), .int .i64 0]) (t := 93) ?hr ?_; (case hd => rfl); (case hg => rfl); (case hr => first | (go_simp; done) | (go_simp; rfl)); intro gb421 hg w7 hbox hb; have n0_ := Aside0.mk (blk_below (g := gb416) (o := .cells #[.int .i64 0, .int .i64 0, .string (⟨#[]⟩ : ByteArray), .string (⟨#[]⟩ : ByteArray), .int .i64 0] 31 (0, 0)) blkA hb); have n1_ := Aside0.mk (below_step bwA hb); have n2_ := Aside0.mk (hbox); have n3_ := Aside0.mk ((by rw [hg]; exact (below_size bwA) : w.heap.size ≤ gb421)); have n4_ := Aside0.mk ((by rw [hg]; exact (below_size bwA) : w.heap.size ≤ gb421)); have n5_ := Aside0.mk ((by rw [hg]; exact Nat.ne_of_lt (blk_lt (g := gb416) (o := .cells #[.int .i64 0, .int .i64 0, .string (⟨#[]⟩ : ByteArray), .string (⟨#[]⟩ : ByteArray), .int .i64 0] 31 (0, 0)) blkA) : gb416 ≠ gb421)); have n6_ := Aside0.mk ((by rw [hg]; exact Nat.ne_of_gt (blk_lt (g := gb416) (o := .cells #[.int .i64 0, .int .i64 0, .string (⟨#[]⟩ : ByteArray), .string (⟨#[]⟩ : ByteArray), .int .i64 0] 31 (0, 0)) blkA) : gb421 ≠ gb416)); clear BK416; clear HB; have BK416 := n0_; have HB := n1_; have BK421 := n2_; have GW421 := n3_; have GE421 := n4_; have NB416_421 := n5_; have NB421_416 := n6_; clear n0_ n1_ n2_ n3_ n4_ n5_ n6_; clear hb hbox hg; have hnb8 := NB421_416.out; have hnc8 := NB416_421.out; have hcz9_0 : w7.cell? ⟨gb421, 0, none⟩ = some (.int .i64 0) := (blk_cell BK421.out 0).trans rfl; have hcz9_1 : w7.cell? ⟨gb421, 1, none⟩ = some (.string (⟨#[]⟩ : ByteArray)) := (blk_cell BK421.out 1).trans rfl; have hcz9_2 : w7.cell? ⟨gb421, 2, none⟩ = some (.string (⟨#[]⟩ : ByteArray)) := (blk_cell BK421.out 2).trans rfl; have hcz9_3 : w7.cell? ⟨gb421, 3, none⟩ = some (.int .i64 0) := (blk_cell BK421.out 3).trans rfl; have hfz9_0 := blk_frozen BK421.out 0; have hfz9_1 := blk_frozen BK421.out 1; have hfz9_2 := blk_frozen BK421.out 2; have hfz9_3 := blk_frozen BK421.out 3))
  (try simp only [Act.put, List.setIfInBounds_toArray, List.set_cons_zero, List.set_cons_succ])
  go_cut [4] (fun v4 wc => ∃ (kq : Nat) (x4_3 : Int), v4 = .int .i64 x4_3 ∧ Aside0 (caduceusref03_Read.j0 kq x4_3 t417 t418 t419 t420 = some (r1, r2, r3, r4, r5)) ∧ Aside0 (kq ≤ k) ∧ Aside0 (wc.heap[gb416]? = some (.cells #[.int .i64 0, .int .i64 0, .string (⟨#[]⟩ : ByteArray), .string (⟨#[]⟩ : ByteArray), .int .i64 0] 31 (0, 0))) ∧ Aside0 (wc.heap[gb421]? = some (.cells #[.int .i64 t417, .string t418, .string t419, .int .i64 t420] 93 (0, 0))) ∧ Aside0 (Below w.heap.size w wc))
  case first =>
   have H := HC4.out
   clear HC4
   by_cases c10 : t417 = 1
   ·rw [if_pos c10] at H
    have c10b0 : (t417 == 1) = true := beq_iff_eq.mpr c10
    have c10b1 : (t417 != 1) = false := bne_eq_false_iff_eq.mpr c10
    clear c10
    (first | rw [c10b0] | (simp only [i64_w, i32_w]; rw [c10b0]) | skip)
    have H' := Aside0.mk H
    clear H
    go_wp2
    go_meet
    case rel => exact ⟨_, (2), (by first | rfl | (simp; done) | (simp [*]; done)), H', ⟨by first | omega | exact Nat.le_refl _⟩, ⟨by (with_reducible repeat (first | refine blk_drewN ?_ _ | refine blk_drew ?_ | refine blk_alloc ?_ _)); refine blk_far ?_ NB416_421.out _; (with_reducible repeat (first | refine blk_drewN ?_ _ | refine blk_drew ?_ | refine blk_alloc ?_ _)); refine blk_far ?_ NB416_421.out _; (with_reducible repeat (first | refine blk_drewN ?_ _ | refine blk_drew ?_ | refine blk_alloc ?_ _)); refine blk_far ?_ NB416_421.out _; (with_reducible repeat (first | refine blk_drewN ?_ _ | refine blk_drew ?_ | refine blk_alloc ?_ _)); refine blk_far ?_ NB416_421.out _; (with_reducible repeat (first | refine blk_drewN ?_ _ | refine blk_drew ?_ | refine blk_alloc ?_ _)); exact BK416.out⟩, ⟨by (with_reducible repeat (first | refine blk_drewN ?_ _ | refine blk_drew ?_ | refine blk_alloc ?_ _)); refine blk_put (cs := #[.int .i64 t417, .string t418, .string t419, .int .i64 0]) ?_ 3 _ rfl; (with_reducible repeat (first | refine blk_drewN ?_ _ | refine blk_drew ?_ | refine blk_alloc ?_ _)); refine blk_put (cs := #[.int .i64 t417, .string t418, .string (⟨#[]⟩ : ByteArray), .int .i64 0]) ?_ 2 _ rfl; (with_reducible repeat (first | refine blk_drewN ?_ _ | refine blk_drew ?_ | refine blk_alloc ?_ _)); refine blk_put (cs := #[.int .i64 t417, .string (⟨#[]⟩ : ByteArray), .string (⟨#[]⟩ : ByteArray), .int .i64 0]) ?_ 1 _ rfl; (with_reducible repeat (first | refine blk_drewN ?_ _ | refine blk_drew ?_ | refine blk_alloc ?_ _)); refine blk_put (cs := #[.int .i64 0, .string (⟨#[]⟩ : ByteArray), .string (⟨#[]⟩ : ByteArray), .int .i64 0]) ?_ 0 _ rfl; (with_reducible repeat (first | refine blk_drewN ?_ _ | refine blk_drew ?_ | refine blk_alloc ?_ _)); exact BK421.out⟩, ⟨by repeat (first | (with_reducible first | exact HB.out | apply below_alloc | apply pw_below_drewN | apply below_drew1 | refine below_set ?_ GE416.out | refine below_set ?_ GE421.out) | exact HB.out)⟩⟩
   ·rw [if_neg c10] at H
    have c10b0 : (t417 == 1) = false := beq_eq_false_iff_ne.mpr c10
    have c10b1 : (t417 != 1) = true := bne_iff_ne.mpr c10
    (first | rw [c10b0] | (simp only [i64_w, i32_w]; rw [c10b0]) | skip)
    have H' := Aside0.mk H
    clear H
    go_wp2
    go_meet
    case rel => exact ⟨_, (4), (by first | rfl | (simp; done) | (simp [*]; done)), H', ⟨by first | omega | exact Nat.le_refl _⟩, ⟨by (with_reducible repeat (first | refine blk_drewN ?_ _ | refine blk_drew ?_ | refine blk_alloc ?_ _)); refine blk_far ?_ NB416_421.out _; (with_reducible repeat (first | refine blk_drewN ?_ _ | refine blk_drew ?_ | refine blk_alloc ?_ _)); refine blk_far ?_ NB416_421.out _; (with_reducible repeat (first | refine blk_drewN ?_ _ | refine blk_drew ?_ | refine blk_alloc ?_ _)); refine blk_far ?_ NB416_421.out _; (with_reducible repeat (first | refine blk_drewN ?_ _ | refine blk_drew ?_ | refine blk_alloc ?_ _)); refine blk_far ?_ NB416_421.out _; (with_reducible repeat (first | refine blk_drewN ?_ _ | refine blk_drew ?_ | refine blk_alloc ?_ _)); exact BK416.out⟩, ⟨by (with_reducible repeat (first | refine blk_drewN ?_ _ | refine blk_drew ?_ | refine blk_alloc ?_ _)); refine blk_put (cs := #[.int .i64 t417, .string t418, .string t419, .int .i64 0]) ?_ 3 _ rfl; (with_reducible repeat (first | refine blk_drewN ?_ _ | refine blk_drew ?_ | refine blk_alloc ?_ _)); refine blk_put (cs := #[.int .i64 t417, .string t418, .string (⟨#[]⟩ : ByteArray), .int .i64 0]) ?_ 2 _ rfl; (with_reducible repeat (first | refine blk_drewN ?_ _ | refine blk_drew ?_ | refine blk_alloc ?_ _)); refine blk_put (cs := #[.int .i64 t417, .string (⟨#[]⟩ : ByteArray), .string (⟨#[]⟩ : ByteArray), .int .i64 0]) ?_ 1 _ rfl; (with_reducible repeat (first | refine blk_drewN ?_ _ | refine blk_drew ?_ | refine blk_alloc ?_ _)); refine blk_put (cs := #[.int .i64 0, .string (⟨#[]⟩ : ByteArray), .string (⟨#[]⟩ : ByteArray), .int .i64 0]) ?_ 0 _ rfl; (with_reducible repeat (first | refine blk_drewN ?_ _ | refine blk_drew ?_ | refine blk_alloc ?_ _)); exact BK421.out⟩, ⟨by repeat (first | (with_reducible first | exact HB.out | apply below_alloc | apply pw_below_drewN | apply below_drew1 | refine below_set ?_ GE416.out | refine below_set ?_ GE421.out) | exact HB.out)⟩⟩
  case rest =>
   clear HC4
   try clear c1
   try clear p2
   try clear c3
   try clear c3b0
   try clear c3b1
   try clear c6
   try clear c8
   try clear c10
   try clear c10b0
   try clear c10b1
   try clear hcz9_0
   try clear hcz9_1
   try clear hcz9_2
   try clear hcz9_3
   try clear hfz9_0
   try clear hfz9_1
   try clear hfz9_2
   try clear hfz9_3
   obtain ⟨kq, x4_3, rfl, HA, HJ3, BK416, BK421, HB⟩ := hcut
   cases kq with
   | zero => exact absurd HA.out (by simp [caduceusref03_Read.j0])
   | succ kj3 =>
    have H := HA.out
    clear HA
    simp only [caduceusref03_Read.j0] at H
    have HC11 := Aside0.mk H
    clear H
    have hnb12 := NB421_416.out
    have hnc12 := NB416_421.out
    have hcz13_0 : wc.cell? ⟨gb421, 0, none⟩ = some (.int .i64 t417) := (blk_cell BK421.out 0).trans rfl
    have hcz13_1 : wc.cell? ⟨gb421, 1, none⟩ = some (.string t418) := (blk_cell BK421.out 1).trans rfl
    have hcz13_2 : wc.cell? ⟨gb421, 2, none⟩ = some (.string t419) := (blk_cell BK421.out 2).trans rfl
    have hcz13_3 : wc.cell? ⟨gb421, 3, none⟩ = some (.int .i64 t420) := (blk_cell BK421.out 3).trans rfl
    have hfz13_0 := blk_frozen BK421.out 0
    have hfz13_1 := blk_frozen BK421.out 1
    have hfz13_2 := blk_frozen BK421.out 2
    have hfz13_3 := blk_frozen BK421.out 3
    go_upto_if 20 with (fail)
    go_cut [4] (fun v4 wc => ∃ (kq : Nat) (x4_10 : Int), v4 = .int .i64 x4_10 ∧ Aside0 (caduceusref03_Read.j1 kq x4_10 t417 t418 t419 t420 = some (r1, r2, r3, r4, r5)) ∧ Aside0 (kq ≤ kj3) ∧ Aside0 (wc.heap[gb416]? = some (.cells #[.int .i64 0, .int .i64 0, .string (⟨#[]⟩ : ByteArray), .string (⟨#[]⟩ : ByteArray), .int .i64 0] 31 (0, 0))) ∧ Aside0 (wc.heap[gb421]? = some (.cells #[.int .i64 t417, .string t418, .string t419, .int .i64 t420] 93 (0, 0))) ∧ Aside0 (Below w.heap.size w wc))
    case first =>
     have H := HC11.out
     clear HC11
     by_cases c14 : t417 = 3
     ·rw [if_pos c14] at H
      have c14b0 : (t417 == 3) = true := beq_iff_eq.mpr c14
      have c14b1 : (t417 != 3) = false := bne_eq_false_iff_eq.mpr c14
      clear c14
      (first | rw [c14b0] | (simp only [i64_w, i32_w]; rw [c14b0]) | skip)
      have H' := Aside0.mk H
      clear H
      go_wp2
      go_meet
      case rel => exact ⟨_, (3), (by first | rfl | (simp; done) | (simp [*]; done)), H', ⟨by have := HJ3.out; first | omega | exact Nat.le_refl _⟩, ⟨by (with_reducible repeat (first | refine blk_drewN ?_ _ | refine blk_drew ?_ | refine blk_alloc ?_ _)); exact BK416.out⟩, ⟨by (with_reducible repeat (first | refine blk_drewN ?_ _ | refine blk_drew ?_ | refine blk_alloc ?_ _)); exact BK421.out⟩, ⟨by repeat (first | (with_reducible first | exact HB.out | apply below_alloc | apply pw_below_drewN | apply below_drew1 | refine below_set ?_ GE416.out | refine below_set ?_ GE421.out) | exact HB.out)⟩⟩
     ·rw [if_neg c14] at H
      have c14b0 : (t417 == 3) = false := beq_eq_false_iff_ne.mpr c14
      have c14b1 : (t417 != 3) = true := bne_iff_ne.mpr c14
      (first | rw [c14b0] | (simp only [i64_w, i32_w]; rw [c14b0]) | skip)
      have H' := Aside0.mk H
      clear H
      go_wp2
      go_meet
      case rel => exact ⟨_, (x4_3), (by first | rfl | (simp; done) | (simp [*]; done)), H', ⟨by have := HJ3.out; first | omega | exact Nat.le_refl _⟩, ⟨by (with_reducible repeat (first | refine blk_drewN ?_ _ | refine blk_drew ?_ | refine blk_alloc ?_ _)); exact BK416.out⟩, ⟨by (with_reducible repeat (first | refine blk_drewN ?_ _ | refine blk_drew ?_ | refine blk_alloc ?_ _)); exact BK421.out⟩, ⟨by repeat (first | (with_reducible first | exact HB.out | apply below_alloc | apply pw_below_drewN | apply below_drew1 | refine below_set ?_ GE416.out | refine below_set ?_ GE421.out) | exact HB.out)⟩⟩
    case rest =>
     clear HC11
     try clear c1
     try clear p2
     try clear c3
     try clear c3b0
     try clear c3b1
     try clear c6
     try clear c8
     try clear c10
     try clear c10b0
     try clear c10b1
     try clear c12
     try clear c14
     try clear c14b0
     try clear c14b1
     try clear hcz13_0
     try clear hcz13_1
     try clear hcz13_2
     try clear hcz13_3
     try clear hcz9_0
     try clear hcz9_1
     try clear hcz9_2
     try clear hcz9_3
     try clear hfz13_0
     try clear hfz13_1
     try clear hfz13_2
     try clear hfz13_3
     try clear hfz9_0
     try clear hfz9_1
     try clear hfz9_2
     try clear hfz9_3
     try clear p2
     obtain ⟨kq, x4_10, rfl, HA, HJ10, BK416, BK421, HB⟩ := hcut
     cases kq with
     | zero => exact absurd HA.out (by simp [caduceusref03_Read.j1])
     | succ kj10 =>
      have H := HA.out
      clear HA
      simp only [caduceusref03_Read.j1] at H
      have HC15 := Aside0.mk H
      clear H
      go_upto_region 9 with (fail)
      go_cut [28] (fun v28 wc => ∃ (kq : Nat) (x28_14 : Bool), v28 = .bool x28_14 ∧ Aside0 (caduceusref03_Read.j2 kq x4_10 x28_14 t417 t418 t419 t420 = some (r1, r2, r3, r4, r5)) ∧ Aside0 (kq ≤ kj10) ∧ Aside0 (wc.heap[gb416]? = some (.cells #[.int .i64 0, .int .i64 0, .string (⟨#[]⟩ : ByteArray), .string (⟨#[]⟩ : ByteArray), .int .i64 0] 31 (0, 0))) ∧ Aside0 (wc.heap[gb421]? = some (.cells #[.int .i64 t417, .string t418, .string t419, .int .i64 t420] 93 (0, 0))) ∧ Aside0 (Below w.heap.size w wc))
      case first =>
       have H := HC15.out
       clear HC15
       by_cases c16 : t417 < 1
       ·rw [if_pos c16] at H
        have c16b0 : decide (t417 < 1) = true := decide_eq_true c16
        clear c16
        (first | rw [c16b0] | (simp only [i64_w, i32_w]; rw [c16b0]) | skip)
        have H' := Aside0.mk H
        clear H
        have hnb17 := NB421_416.out
        have hnc17 := NB416_421.out
        have hcz18_0 : wc.cell? ⟨gb421, 0, none⟩ = some (.int .i64 t417) := (blk_cell BK421.out 0).trans rfl
        have hcz18_1 : wc.cell? ⟨gb421, 1, none⟩ = some (.string t418) := (blk_cell BK421.out 1).trans rfl
        have hcz18_2 : wc.cell? ⟨gb421, 2, none⟩ = some (.string t419) := (blk_cell BK421.out 2).trans rfl
        have hcz18_3 : wc.cell? ⟨gb421, 3, none⟩ = some (.int .i64 t420) := (blk_cell BK421.out 3).trans rfl
        have hfz18_0 := blk_frozen BK421.out 0
        have hfz18_1 := blk_frozen BK421.out 1
        have hfz18_2 := blk_frozen BK421.out 2
        have hfz18_3 := blk_frozen BK421.out 3
        go_wp2
        go_meet
        case rel => exact ⟨_, (true), (by first | rfl | (simp; done) | (simp [*]; done)), H', ⟨by have := HJ3.out; have := HJ10.out; first | omega | exact Nat.le_refl _⟩, ⟨by (with_reducible repeat (first | refine blk_drewN ?_ _ | refine blk_drew ?_ | refine blk_alloc ?_ _)); exact BK416.out⟩, ⟨by (with_reducible repeat (first | refine blk_drewN ?_ _ | refine blk_drew ?_ | refine blk_alloc ?_ _)); exact BK421.out⟩, ⟨by repeat (first | (with_reducible first | exact HB.out | apply below_alloc | apply pw_below_drewN | apply below_drew1 | refine below_set ?_ GE416.out | refine below_set ?_ GE421.out) | exact HB.out)⟩⟩
       ·rw [if_neg c16] at H
        have c16b0 : decide (t417 < 1) = false := decide_eq_false c16
        clear c16
        (first | rw [c16b0] | (simp only [i64_w, i32_w]; rw [c16b0]) | skip)
        have H' := Aside0.mk H
        clear H
        have hnb19 := NB421_416.out
        have hnc19 := NB416_421.out
        have hcz20_0 : wc.cell? ⟨gb421, 0, none⟩ = some (.int .i64 t417) := (blk_cell BK421.out 0).trans rfl
        have hcz20_1 : wc.cell? ⟨gb421, 1, none⟩ = some (.string t418) := (blk_cell BK421.out 1).trans rfl
        have hcz20_2 : wc.cell? ⟨gb421, 2, none⟩ = some (.string t419) := (blk_cell BK421.out 2).trans rfl
        have hcz20_3 : wc.cell? ⟨gb421, 3, none⟩ = some (.int .i64 t420) := (blk_cell BK421.out 3).trans rfl
        have hfz20_0 := blk_frozen BK421.out 0
        have hfz20_1 := blk_frozen BK421.out 1
        have hfz20_2 := blk_frozen BK421.out 2
        have hfz20_3 := blk_frozen BK421.out 3
        go_wp2
        go_meet
        case rel => exact ⟨_, (decide (t417 > 4)), (by first | rfl | (simp; done) | (simp [*]; done)), H', ⟨by have := HJ3.out; have := HJ10.out; first | omega | exact Nat.le_refl _⟩, ⟨by (with_reducible repeat (first | refine blk_drewN ?_ _ | refine blk_drew ?_ | refine blk_alloc ?_ _)); exact BK416.out⟩, ⟨by (with_reducible repeat (first | refine blk_drewN ?_ _ | refine blk_drew ?_ | refine blk_alloc ?_ _)); exact BK421.out⟩, ⟨by repeat (first | (with_reducible first | exact HB.out | apply below_alloc | apply pw_below_drewN | apply below_drew1 | refine below_set ?_ GE416.out | refine below_set ?_ GE421.out) | exact HB.out)⟩⟩
      case rest =>
       clear HC15
       try clear c1
       try clear p2
       try clear c3
       try clear c3b0
       try clear c3b1
       try clear c6
       try clear c8
       try clear c10
       try clear c10b0
       try clear c10b1
       try clear c12
       try clear c14
       try clear c14b0
       try clear c14b1
       try clear c16
       try clear c16b0
       try clear c17
       try clear c19
       try clear hcz13_0
       try clear hcz13_1
       try clear hcz13_2
       try clear hcz13_3
       try clear hcz18_0
       try clear hcz18_1
       try clear hcz18_2
       try clear hcz18_3
       try clear hcz20_0
       try clear hcz20_1
       try clear hcz20_2
       try clear hcz20_3
       try clear hcz9_0
       try clear hcz9_1
       try clear hcz9_2
       try clear hcz9_3
       try clear hfz13_0
       try clear hfz13_1
       try clear hfz13_2
       try clear hfz13_3
       try clear hfz18_0
       try clear hfz18_1
       try clear hfz18_2
       try clear hfz18_3
       try clear hfz20_0
       try clear hfz20_1
       try clear hfz20_2
       try clear hfz20_3
       try clear hfz9_0
       try clear hfz9_1
       try clear hfz9_2
       try clear hfz9_3
       try clear p2
       obtain ⟨kq, x28_14, rfl, HA, HJ14, BK416, BK421, HB⟩ := hcut
       cases kq with
       | zero => exact absurd HA.out (by simp [caduceusref03_Read.j2])
       | succ kj14 =>
        have H := HA.out
        clear HA
        simp only [caduceusref03_Read.j2] at H
        by_cases c21 : x28_14 = true
        ·subst c21
         have H1 : (some (0, 0, (⟨#[]⟩ : ByteArray), (⟨#[]⟩ : ByteArray), 8)) = some (r1, r2, r3, r4, r5) := by rw [if_pos rfl] at H; exact H
         clear H
         have H := H1
         clear H1
         simp only [Option.some.injEq, Prod.mk.injEq] at H
         obtain ⟨rfl, rfl, rfl, rfl, rfl⟩ := H
         have hnb22 := NB416_421.out
         have hnc22 := NB421_416.out
         have hcz23_0 : wc.cell? ⟨gb416, 0, none⟩ = some (.int .i64 0) := (blk_cell BK416.out 0).trans rfl
         have hcz23_1 : wc.cell? ⟨gb416, 1, none⟩ = some (.int .i64 0) := (blk_cell BK416.out 1).trans rfl
         have hcz23_2 : wc.cell? ⟨gb416, 2, none⟩ = some (.string (⟨#[]⟩ : ByteArray)) := (blk_cell BK416.out 2).trans rfl
         have hcz23_3 : wc.cell? ⟨gb416, 3, none⟩ = some (.string (⟨#[]⟩ : ByteArray)) := (blk_cell BK416.out 3).trans rfl
         have hcz23_4 : wc.cell? ⟨gb416, 4, none⟩ = some (.int .i64 0) := (blk_cell BK416.out 4).trans rfl
         have hfz23_0 := blk_frozen BK416.out 0
         have hfz23_1 := blk_frozen BK416.out 1
         have hfz23_2 := blk_frozen BK416.out 2
         have hfz23_3 := blk_frozen BK416.out 3
         have hfz23_4 := blk_frozen BK416.out 4
         go_wp2
         refine bodyPost_ret (results_cell_row rfl _ _ gb416 31 #[.int .i64 0, .int .i64 0, .string (⟨#[]⟩ : ByteArray), .string (⟨#[]⟩ : ByteArray), .int .i64 8] (0, 0) _ rfl (by (with_reducible repeat (first | refine blk_drewN ?_ _ | refine blk_drew ?_ | refine blk_alloc ?_ _)); refine blk_put (cs := #[.int .i64 0, .int .i64 0, .string (⟨#[]⟩ : ByteArray), .string (⟨#[]⟩ : ByteArray), .int .i64 0]) ?_ 4 _ rfl; (with_reducible repeat (first | refine blk_drewN ?_ _ | refine blk_drew ?_ | refine blk_alloc ?_ _)); refine blk_put (cs := #[.int .i64 0, .int .i64 0, .string (⟨#[]⟩ : ByteArray), .string (⟨#[]⟩ : ByteArray), .int .i64 0]) ?_ 3 _ rfl; (with_reducible repeat (first | refine blk_drewN ?_ _ | refine blk_drew ?_ | refine blk_alloc ?_ _)); refine blk_put (cs := #[.int .i64 0, .int .i64 0, .string (⟨#[]⟩ : ByteArray), .string (⟨#[]⟩ : ByteArray), .int .i64 0]) ?_ 2 _ rfl; (with_reducible repeat (first | refine blk_drewN ?_ _ | refine blk_drew ?_ | refine blk_alloc ?_ _)); refine blk_put (cs := #[.int .i64 0, .int .i64 0, .string (⟨#[]⟩ : ByteArray), .string (⟨#[]⟩ : ByteArray), .int .i64 0]) ?_ 1 _ rfl; (with_reducible repeat (first | refine blk_drewN ?_ _ | refine blk_drew ?_ | refine blk_alloc ?_ _)); refine blk_put (cs := #[.int .i64 0, .int .i64 0, .string (⟨#[]⟩ : ByteArray), .string (⟨#[]⟩ : ByteArray), .int .i64 0]) ?_ 0 _ rfl; (with_reducible repeat (first | refine blk_drewN ?_ _ | refine blk_drew ?_ | refine blk_alloc ?_ _)); exact BK416.out) Tryd.underlying31 rfl (by kernel_rfl)) rfl ?_
         exact ⟨by first | rfl | (simp [errW_none, errW_some] <;> rfl) | (simp [*, errW_none, errW_some] <;> rfl), by repeat (first | (with_reducible first | exact HB.out | apply below_alloc | apply pw_below_drewN | apply below_drew1 | refine below_set ?_ GE416.out | refine below_set ?_ GE421.out) | exact HB.out)⟩
        ·replace c21 := Bool.eq_false_iff.mpr c21
         subst c21
         have H1 : ((caduceusref01_Take.f kj14 t419 (([x4_10] : List Int))).bind fun bt425 => (if bt425.2.2 = 0 then (if 0 < (bt425.1.length : Int) then ((caduceusref03_Check.f kj14 t417 ((rd_T99 bt425.1 0).f1) ((rd_T99 bt425.1 0).f2)).bind fun t434 => (if t434 = true then (some (t417, (rd_T99 bt425.1 0).f1, (rd_T99 bt425.1 0).f2, bt425.2.1, 0)) else (some (0, 0, (⟨#[]⟩ : ByteArray), (⟨#[]⟩ : ByteArray), 3)))) else (none)) else (some (0, 0, (⟨#[]⟩ : ByteArray), (⟨#[]⟩ : ByteArray), bt425.2.2)))) = some (r1, r2, r3, r4, r5) := by rw [if_neg (show ¬ (false = true) by decide)] at H; exact H
         clear H
         have H := H1
         clear H1
         obtain ⟨y422, hy422⟩ : ∃ y_ : List Int, y_ = (([x4_10] : List Int)) := ⟨_, rfl⟩
         replace H : ((caduceusref01_Take.f kj14 t419 y422).bind fun bt425 => (if bt425.2.2 = 0 then (if 0 < (bt425.1.length : Int) then ((caduceusref03_Check.f kj14 t417 ((rd_T99 bt425.1 0).f1) ((rd_T99 bt425.1 0).f2)).bind fun t434 => (if t434 = true then (some (t417, (rd_T99 bt425.1 0).f1, (rd_T99 bt425.1 0).f2, bt425.2.1, 0)) else (some (0, 0, (⟨#[]⟩ : ByteArray), (⟨#[]⟩ : ByteArray), 3)))) else (none)) else (some (0, 0, (⟨#[]⟩ : ByteArray), (⟨#[]⟩ : ByteArray), bt425.2.2)))) = some (r1, r2, r3, r4, r5) := by first | (rw [hy422]; with_reducible exact H) | (have H2_ := (Option.bind_some _ _).symm.trans H; rw [hy422]; with_reducible exact H2_) | (have H2_ := (Option.bind_some _ _).symm.trans H; with_reducible exact H2_) | with_reducible exact H | (rw [hy422]; exact H) | exact H
         have Ny422 := Aside0.mk hy422
         clear hy422
         replace H := Option.bind_eq_some_iff.mp H
         obtain ⟨⟨t425, t428, t429⟩, A240, H⟩ := H
         replace H : (if t429 = 0 then (if 0 < (t425.length : Int) then ((caduceusref03_Check.f kj14 t417 ((rd_T99 t425 0).f1) ((rd_T99 t425 0).f2)).bind fun t434 => (if t434 = true then (some (t417, (rd_T99 t425 0).f1, (rd_T99 t425 0).f2, t428, 0)) else (some (0, 0, (⟨#[]⟩ : ByteArray), (⟨#[]⟩ : ByteArray), 3)))) else (none)) else (some (0, 0, (⟨#[]⟩ : ByteArray), (⟨#[]⟩ : ByteArray), t429))) = some (r1, r2, r3, r4, r5) := H
         have A24 := Aside0.mk A240
         clear A240
         by_cases c25 : t429 = 0
         ·rw [if_pos c25] at H
          have c25b0 : (t429 == 0) = true := beq_iff_eq.mpr c25
          have c25b1 : (t429 != 0) = false := bne_eq_false_iff_eq.mpr c25
          clear c25
          by_cases c26 : 0 < (t425.length : Int)
          ·rw [if_pos c26] at H
           have c26b0 : decide (0 < (t425.length : Int)) = true := decide_eq_true c26
           have c26b1 : decide (0 < t425.length) = true := decide_eq_true (by omega)
           clear c26
           replace H := Option.bind_eq_some_iff.mp H
           obtain ⟨t434, A270, H⟩ := H
           replace H : (if t434 = true then (some (t417, (rd_T99 t425 0).f1, (rd_T99 t425 0).f2, t428, 0)) else (some (0, 0, (⟨#[]⟩ : ByteArray), (⟨#[]⟩ : ByteArray), 3))) = some (r1, r2, r3, r4, r5) := H
           have A27 := Aside0.mk A270
           clear A270
           by_cases c28 : t434 = true
           ·subst c28
            have H1 : (some (t417, (rd_T99 t425 0).f1, (rd_T99 t425 0).f2, t428, 0)) = some (r1, r2, r3, r4, r5) := by rw [if_pos rfl] at H; exact H
            clear H
            have H := H1
            clear H1
            simp only [Option.some.injEq, Prod.mk.injEq] at H
            obtain ⟨rfl, rfl, rfl, rfl, rfl⟩ := H
            have hnb29 := NB421_416.out
            have hnc29 := NB416_421.out
            have hcz30_0 : wc.cell? ⟨gb421, 0, none⟩ = some (.int .i64 t417) := (blk_cell BK421.out 0).trans rfl
            have hcz30_1 : wc.cell? ⟨gb421, 1, none⟩ = some (.string t418) := (blk_cell BK421.out 1).trans rfl
            have hcz30_2 : wc.cell? ⟨gb421, 2, none⟩ = some (.string t419) := (blk_cell BK421.out 2).trans rfl
            have hcz30_3 : wc.cell? ⟨gb421, 3, none⟩ = some (.int .i64 t420) := (blk_cell BK421.out 3).trans rfl
            have hfz30_0 := blk_frozen BK421.out 0
            have hfz30_1 := blk_frozen BK421.out 1
            have hfz30_2 := blk_frozen BK421.out 2
            have hfz30_3 := blk_frozen BK421.out 3
            try go_wp2_with (first | ((with_reducible refine gate_dst (N := 33) rfl ?_); refine Kd.R_lit (Kd.int .i64) _ 3 ?hg (N := 33) ?hd (xs := ([x4_10] : List Int)) (inner := [.int .i64 x4_10]) (ok := fun _ => True) (okp := fun _ => True) ?hr ?hp (fun _ hk => hk) trivial (Below.refl _ _) (Nat.le_refl _) (by simp) ?_; (case hd => rfl); (case hg => rfl); (case hr => first | (go_simp; done) | (go_simp; rfl)); (case hp => exact (Reps.one (show Kd.M (Kd.int .i64) _ _ _ x4_10 [.int .i64 x4_10] from rfl) (Reps.none _ _))); intro v423 w31 ho32 hb hg_ hnew_; clear hg_ hnew_; (first | rw [← Ny422.out] at ho32 | (simp only [Int.reduceToNat] at ho32; rw [← Ny422.out] at ho32)); have n0_ := Aside0.mk (Kd.R_lower ho32 (below_size bwA)); have n1_ := Aside0.mk (blk_below (g := gb416) (o := .cells #[.int .i64 0, .int .i64 0, .string (⟨#[]⟩ : ByteArray), .string (⟨#[]⟩ : ByteArray), .int .i64 0] 31 (0, 0)) blkA hb); have n2_ := Aside0.mk (blk_below (g := gb421) (o := .cells #[.int .i64 t417, .string t418, .string t419, .int .i64 t420] 93 (0, 0)) blkA hb); have n3_ := Aside0.mk (below_step bwA hb); clear BK416; clear BK421; clear HB; have HO424 := n0_; have BK416 := n1_; have BK421 := n2_; have HB := n3_; clear n0_ n1_ n2_ n3_; clear hb ho32; obtain ⟨Ao33, co33, eo33⟩ := Kd.R_slice HO424.out; subst eo33) | ((with_reducible refine gate_callee (f := 65) rfl ?_); refine goesA (some 34) Tryd.func65 #[.string t419, .slice Ao33 y422.length co33] ?_; (with_reducible refine (caduceusref01_Take.calls kj14 t419 _ _ y422 t425 t428 t429 _ ?side1 ?side2 A24.out).mono ?_); (case side1 => repeat (first | exact (Kd.R_reads' HO424.out).2.2 | (with_reducible refine Kd.C_alloc ?_ _) | (with_reducible refine Kd.C_drewN ?_ _) | (with_reducible refine Kd.C_drew ?_))); (case side2 => exact (Kd.R_reads' HO424.out).2.1); rintro e w34 ⟨v426, rfl, ho0, hb⟩; refine ⟨_, rfl, ?_⟩; have n0_ := Aside0.mk (Kd.R_below (by (with_reducible repeat (first | apply Kd.R_alloc | apply Kd.R_drewN | apply Kd.R_drew)); exact HO424.out) hb); have n1_ := Aside0.mk (Kd.R_lower ho0 (below_size bwA)); have n2_ := Aside0.mk (blk_below (g := gb416) (o := .cells #[.int .i64 0, .int .i64 0, .string (⟨#[]⟩ : ByteArray), .string (⟨#[]⟩ : ByteArray), .int .i64 0] 31 (0, 0)) blkA hb); have n3_ := Aside0.mk (blk_below (g := gb421) (o := .cells #[.int .i64 t417, .string t418, .string t419, .int .i64 t420] 93 (0, 0)) blkA hb); have n4_ := Aside0.mk (below_step bwA hb); clear HO424; clear BK416; clear BK421; clear HB; have HO424 := n0_; have HO427 := n1_; have BK416 := n2_; have BK421 := n3_; have HB := n4_; clear n0_ n1_ n2_ n3_ n4_; (try clear hb); (try clear hb2); (try clear hk); (try clear hi); (try clear ho0)) | ((with_reducible refine gate_dst (N := 5) rfl ?_); refine box_event ?hg (N := 5) ?hd (cs := #[.slice none 0 0, .string (⟨#[]⟩ : ByteArray), .int .i64 0]) (t := 97) ?hr ?_; (case hd => rfl); (case hg => rfl); (case hr => first | (go_simp; done) | (go_simp; rfl)); intro gb430 hg w35 hbox hb; have n0_ := Aside0.mk (Kd.R_below (by (with_reducible repeat (first | apply Kd.R_alloc | apply Kd.R_drewN | apply Kd.R_drew)); exact HO424.out) hb); have n1_ := Aside0.mk (Kd.R_below (by (with_reducible repeat (first | apply Kd.R_alloc | apply Kd.R_drewN | apply Kd.R_drew)); exact HO427.out) hb); have n2_ := Aside0.mk (blk_below (g := gb416) (o := .cells #[.int .i64 0, .int .i64 0, .string (⟨#[]⟩ : ByteArray), .string (⟨#[]⟩ : ByteArray), .int .i64 0] 31 (0, 0)) blkA hb); have n3_ := Aside0.mk (blk_below (g := gb421) (o := .cells #[.int .i64 t417, .string t418, .string t419, .int .i64 t420] 93 (0, 0)) blkA hb); have n4_ := Aside0.mk (below_step bwA hb); have n5_ := Aside0.mk (hbox); have n6_ := Aside0.mk ((by rw [hg]; exact (below_size bwA) : w.heap.size ≤ gb430)); have n7_ := Aside0.mk ((by rw [hg]; exact (below_size bwA) : w.heap.size ≤ gb430)); have n8_ := Aside0.mk ((by rw [hg]; exact Nat.ne_of_lt (blk_lt (g := gb416) (o := .cells #[.int .i64 0, .int .i64 0, .string (⟨#[]⟩ : ByteArray), .string (⟨#[]⟩ : ByteArray), .int .i64 0] 31 (0, 0)) blkA) : gb416 ≠ gb430)); have n9_ := Aside0.mk ((by rw [hg]; exact Nat.ne_of_gt (blk_lt (g := gb416) (o := .cells #[.int .i64 0, .int .i64 0, .string (⟨#[]⟩ : ByteArray), .string (⟨#[]⟩ : ByteArray), .int .i64 0] 31 (0, 0)) blkA) : gb430 ≠ gb416)); have n10_ := Aside0.mk ((by rw [hg]; exact Nat.ne_of_lt (blk_lt (g := gb421) (o := .cells #[.int .i64 t417, .string t418, .string t419, .int .i64 t420] 93 (0, 0)) blkA) : gb421 ≠ gb430)); have n11_ := Aside0.mk ((by rw [hg]; exact Nat.ne_of_gt (blk_lt (g := gb421) (o := .cells #[.int .i64 t417, .string t418, .string t419, .int .i64 t420] 93 (0, 0)) blkA) : gb430 ≠ gb421)); clear HO424; clear HO427; clear BK416; clear BK421; clear HB; have HO424 := n0_; have HO427 := n1_; have BK416 := n2_; have BK421 := n3_; have HB := n4_; have BK430 := n5_; have GW430 := n6_; have GE430 := n7_; have NB416_430 := n8_; have NB430_416 := n9_; have NB421_430 := n10_; have NB430_421 := n11_; clear n0_ n1_ n2_ n3_ n4_ n5_ n6_ n7_ n8_ n9_ n10_ n11_; clear hb hbox hg; obtain ⟨Ao36, co36, eo36⟩ := Kd.R_slice HO427.out; subst eo36; have hnb37 := NB430_416.out; have hnc37 := NB416_430.out; have hnb38 := NB430_421.out; have hnc38 := NB421_430.out; have hcz39_0 : w35.cell? ⟨gb430, 0, none⟩ = some (.slice none 0 0) := (blk_cell BK430.out 0).trans rfl; have hcz39_1 : w35.cell? ⟨gb430, 1, none⟩ = some (.string (⟨#[]⟩ : ByteArray)) := (blk_cell BK430.out 1).trans rfl; have hcz39_2 : w35.cell? ⟨gb430, 2, none⟩ = some (.int .i64 0) := (blk_cell BK430.out 2).trans rfl; have hfz39_0 := blk_frozen BK430.out 0; have hfz39_1 := blk_frozen BK430.out 1; have hfz39_2 := blk_frozen BK430.out 2))
            have n0_ : Aside0 (Kd.R (Kd.int .i64) 3 (((w35.setCell ⟨gb430, 0, none⟩ (.slice Ao36 t425.length co36)).setCell ⟨gb430, 1, none⟩ (.string t428)).setCell ⟨gb430, 2, none⟩ (.int .i64 t429)) w.heap.size (fun _ => True) (.slice Ao33 y422.length co33) y422) := ⟨by (with_reducible repeat (first | apply Kd.R_alloc | apply Kd.R_drewN | apply Kd.R_drew)); exact Kd.R_mono (Kd.R_far (p := ⟨gb430, 2, none⟩) (Kd.R_far (p := ⟨gb430, 1, none⟩) (Kd.R_far (p := ⟨gb430, 0, none⟩) (Kd.R_types HO424.out BK430.out (by decide)) (fun _ hk => hk.2) (.slice Ao36 t425.length co36)) (fun _ hk => hk.2) (.string t428)) (fun _ hk => hk.2) (.int .i64 t429)) (fun _ hk => trivial)⟩
            have n1_ : Aside0 (Kd.R k99 99 (((w35.setCell ⟨gb430, 0, none⟩ (.slice Ao36 t425.length co36)).setCell ⟨gb430, 1, none⟩ (.string t428)).setCell ⟨gb430, 2, none⟩ (.int .i64 t429)) w.heap.size (fun _ => True) (.slice Ao36 t425.length co36) t425) := ⟨by (with_reducible repeat (first | apply Kd.R_alloc | apply Kd.R_drewN | apply Kd.R_drew)); exact Kd.R_mono (Kd.R_far (p := ⟨gb430, 2, none⟩) (Kd.R_far (p := ⟨gb430, 1, none⟩) (Kd.R_far (p := ⟨gb430, 0, none⟩) (Kd.R_types HO427.out BK430.out (by decide)) (fun _ hk => hk.2) (.slice Ao36 t425.length co36)) (fun _ hk => hk.2) (.string t428)) (fun _ hk => hk.2) (.int .i64 t429)) (fun _ hk => trivial)⟩
            have n2_ : Aside0 ((((w35.setCell ⟨gb430, 0, none⟩ (.slice Ao36 t425.length co36)).setCell ⟨gb430, 1, none⟩ (.string t428)).setCell ⟨gb430, 2, none⟩ (.int .i64 t429)).heap[gb416]? = some (.cells #[.int .i64 0, .int .i64 0, .string (⟨#[]⟩ : ByteArray), .string (⟨#[]⟩ : ByteArray), .int .i64 0] 31 (0, 0))) := ⟨by (with_reducible repeat (first | refine blk_drewN ?_ _ | refine blk_drew ?_ | refine blk_alloc ?_ _)); refine blk_far ?_ NB416_430.out _; (with_reducible repeat (first | refine blk_drewN ?_ _ | refine blk_drew ?_ | refine blk_alloc ?_ _)); refine blk_far ?_ NB416_430.out _; (with_reducible repeat (first | refine blk_drewN ?_ _ | refine blk_drew ?_ | refine blk_alloc ?_ _)); refine blk_far ?_ NB416_430.out _; (with_reducible repeat (first | refine blk_drewN ?_ _ | refine blk_drew ?_ | refine blk_alloc ?_ _)); exact BK416.out⟩
            have n3_ : Aside0 ((((w35.setCell ⟨gb430, 0, none⟩ (.slice Ao36 t425.length co36)).setCell ⟨gb430, 1, none⟩ (.string t428)).setCell ⟨gb430, 2, none⟩ (.int .i64 t429)).heap[gb421]? = some (.cells #[.int .i64 t417, .string t418, .string t419, .int .i64 t420] 93 (0, 0))) := ⟨by (with_reducible repeat (first | refine blk_drewN ?_ _ | refine blk_drew ?_ | refine blk_alloc ?_ _)); refine blk_far ?_ NB421_430.out _; (with_reducible repeat (first | refine blk_drewN ?_ _ | refine blk_drew ?_ | refine blk_alloc ?_ _)); refine blk_far ?_ NB421_430.out _; (with_reducible repeat (first | refine blk_drewN ?_ _ | refine blk_drew ?_ | refine blk_alloc ?_ _)); refine blk_far ?_ NB421_430.out _; (with_reducible repeat (first | refine blk_drewN ?_ _ | refine blk_drew ?_ | refine blk_alloc ?_ _)); exact BK421.out⟩
            have n4_ : Aside0 ((((w35.setCell ⟨gb430, 0, none⟩ (.slice Ao36 t425.length co36)).setCell ⟨gb430, 1, none⟩ (.string t428)).setCell ⟨gb430, 2, none⟩ (.int .i64 t429)).heap[gb430]? = some (.cells #[.slice Ao36 t425.length co36, .string t428, .int .i64 t429] 97 (0, 0))) := ⟨by (with_reducible repeat (first | refine blk_drewN ?_ _ | refine blk_drew ?_ | refine blk_alloc ?_ _)); refine blk_put (cs := #[.slice Ao36 t425.length co36, .string t428, .int .i64 0]) ?_ 2 _ rfl; (with_reducible repeat (first | refine blk_drewN ?_ _ | refine blk_drew ?_ | refine blk_alloc ?_ _)); refine blk_put (cs := #[.slice Ao36 t425.length co36, .string (⟨#[]⟩ : ByteArray), .int .i64 0]) ?_ 1 _ rfl; (with_reducible repeat (first | refine blk_drewN ?_ _ | refine blk_drew ?_ | refine blk_alloc ?_ _)); refine blk_put (cs := #[.slice none 0 0, .string (⟨#[]⟩ : ByteArray), .int .i64 0]) ?_ 0 _ rfl; (with_reducible repeat (first | refine blk_drewN ?_ _ | refine blk_drew ?_ | refine blk_alloc ?_ _)); exact BK430.out⟩
            have n5_ : Aside0 (Below w.heap.size w (((w35.setCell ⟨gb430, 0, none⟩ (.slice Ao36 t425.length co36)).setCell ⟨gb430, 1, none⟩ (.string t428)).setCell ⟨gb430, 2, none⟩ (.int .i64 t429))) := ⟨by repeat (first | (with_reducible first | exact HB.out | apply below_alloc | apply pw_below_drewN | apply below_drew1 | refine below_set ?_ GE416.out | refine below_set ?_ GE421.out | refine below_set ?_ GE430.out) | exact HB.out)⟩
            (try clear HO424)
            (try clear HO427)
            (try clear BK416)
            (try clear BK421)
            (try clear BK430)
            (try clear HB)
            generalize (((w35.setCell ⟨gb430, 0, none⟩ (.slice Ao36 t425.length co36)).setCell ⟨gb430, 1, none⟩ (.string t428)).setCell ⟨gb430, 2, none⟩ (.int .i64 t429)) = w40 at n0_ n1_ n2_ n3_ n4_ n5_ ⊢
            have HO424 := n0_
            have HO427 := n1_
            have BK416 := n2_
            have BK421 := n3_
            have BK430 := n4_
            have HB := n5_
            clear n0_ n1_ n2_ n3_ n4_ n5_
            have n0_ := Aside0.mk (Kd.R_drew HO424.out)
            have n1_ := Aside0.mk (Kd.R_drew HO427.out)
            have n2_ := Aside0.mk (blk_drew BK416.out)
            have n3_ := Aside0.mk (blk_drew BK421.out)
            have n4_ := Aside0.mk (blk_drew BK430.out)
            have n5_ := Aside0.mk (below_drew1 HB.out)
            clear HO424
            clear HO427
            clear BK416
            clear BK421
            clear BK430
            clear HB
            have HO424 := n0_
            have HO427 := n1_
            have BK416 := n2_
            have BK421 := n3_
            have BK430 := n4_
            have HB := n5_
            clear n0_ n1_ n2_ n3_ n4_ n5_
            have p431 : 0 ≤ (0 : Int) := (by omega)
            have q431 : 0 < (t425.length : Int) := of_decide_eq_true (by first | (with_reducible assumption) | assumption)
            obtain ⟨ad431, e431, hx431_0, hx431_1, hx431_2⟩ := at_T99 (Kd.R_reads' HO427.out).2.2 0 p431 q431
            cases e431
            have qi431 : (0 < t425.length) = True := eq_true (by omega)
            (try rw [show ((0 : Int)).toNat = 0 from rfl] at hx431_0)
            (try rw [show 0 * 3 = 0 from rfl] at hx431_0)
            (try rw [Addr.add_zero'] at hx431_0)
            (try rw [show ((0 : Int)).toNat = 0 from rfl] at hx431_1)
            (try rw [show 0 * 3 = 0 from rfl] at hx431_1)
            (try rw [Addr.add_zero'] at hx431_1)
            (try rw [show ((0 : Int)).toNat = 0 from rfl] at hx431_2)
            (try rw [show 0 * 3 = 0 from rfl] at hx431_2)
            (try rw [Addr.add_zero'] at hx431_2)
            replace p431 := eq_true p431
            replace q431 := eq_true q431
            have p432 : 0 ≤ (0 : Int) := (by omega)
            have q432 : 0 < (t425.length : Int) := of_decide_eq_true (by first | (with_reducible assumption) | assumption)
            obtain ⟨ad432, e432, hx432_0, hx432_1, hx432_2⟩ := at_T99 (Kd.R_reads' HO427.out).2.2 0 p432 q432
            obtain rfl : ad431 = ad432 := (by injection e432)
            have qi432 : (0 < t425.length) = True := eq_true (by omega)
            (try rw [show ((0 : Int)).toNat = 0 from rfl] at hx432_0)
            (try rw [show 0 * 3 = 0 from rfl] at hx432_0)
            (try rw [Addr.add_zero'] at hx432_0)
            (try rw [show ((0 : Int)).toNat = 0 from rfl] at hx432_1)
            (try rw [show 0 * 3 = 0 from rfl] at hx432_1)
            (try rw [Addr.add_zero'] at hx432_1)
            (try rw [show ((0 : Int)).toNat = 0 from rfl] at hx432_2)
            (try rw [show 0 * 3 = 0 from rfl] at hx432_2)
            (try rw [Addr.add_zero'] at hx432_2)
            replace p432 := eq_true p432
            replace q432 := eq_true q432
            refine start_ (n := 15) (S := fun w' => w'.cell? ⟨gb421, 0, none⟩ = some (.int .i64 t417) ∧ w'.cell? ⟨gb421, 1, none⟩ = some (.string t418) ∧ w'.cell? ⟨gb421, 2, none⟩ = some (.string t419) ∧ w'.cell? ⟨gb421, 3, none⟩ = some (.int .i64 t420) ∧ w'.cell? ⟨gb430, 0, none⟩ = some (.slice (some ad431) t425.length co36) ∧ w'.cell? ⟨gb430, 1, none⟩ = some (.string t428) ∧ w'.cell? ⟨gb430, 2, none⟩ = some (.int .i64 t429) ∧ w'.cell? ad431 = some (.int .i64 ((rd_T99 t425 0).f0)) ∧ w'.cell? ⟨ad431.block, ad431.off + 1, none⟩ = some (.int .i64 ((rd_T99 t425 0).f1)) ∧ w'.cell? ⟨ad431.block, ad431.off + 2, none⟩ = some (.string ((rd_T99 t425 0).f2)) ∧ w'.cell? ad431 = some (.int .i64 ((rd_T99 t425 0).f0)) ∧ w'.cell? ⟨ad431.block, ad431.off + 1, none⟩ = some (.int .i64 ((rd_T99 t425 0).f1)) ∧ w'.cell? ⟨ad431.block, ad431.off + 2, none⟩ = some (.string ((rd_T99 t425 0).f2))) (ds := []) #[false, false, false, false, false, false, false, false, false, false, false, false, false, false, false] (by kernel_rfl) rfl rfl ⟨(blk_cell BK421.out 0).trans rfl, (blk_cell BK421.out 1).trans rfl, (blk_cell BK421.out 2).trans rfl, (blk_cell BK421.out 3).trans rfl, (blk_cell BK430.out 0).trans rfl, (blk_cell BK430.out 1).trans rfl, (blk_cell BK430.out 2).trans rfl, hx431_0, hx431_1, hx431_2, hx432_0, hx432_1, hx432_2⟩ (fun hHeld => ?_); refine with_tabW caduceusref03_Read.tab14 caduceusref03_Read.bits14 (fun HT_ HW_ => ?_)
            generalize w40.drew = w41 at HO424 HO427 BK416 BK421 BK430 HB hx431_0 hx431_1 hx431_2 hx432_0 hx432_1 hx432_2 hHeld ⊢
            refine pure_ (i := 0) (N := some 41) (v := ?_) (a' := ?_) #[true, false, false, false, false, false, false, false, false, false, false, false, false, false, false] rfl rfl (any_of HT_.out (by kernel_rfl)) (fun _ _ _ h => h) (Or.inl ⟨by rfl, ?_⟩) ?_ ?_
            rotate_left
            ·intro w'
             go_simp
             with_reducible rfl
            rotate_left
            ·simp only [Act.put, List.setIfInBounds_toArray, List.set_cons_zero, List.set_cons_succ, i64_w, i32_w]
             rfl
            refine pure_ (i := 2) (N := some 43) (v := ?_) (a' := ?_) #[true, false, true, false, false, false, false, false, false, false, false, false, false, false, false] rfl rfl (any_of HT_.out (by kernel_rfl)) (fun _ _ _ h => h) (Or.inl ⟨by rfl, ?_⟩) ?_ ?_
            rotate_left
            ·intro w'
             go_simp
             with_reducible rfl
            rotate_left
            ·simp only [Act.put, List.setIfInBounds_toArray, List.set_cons_zero, List.set_cons_succ, i64_w, i32_w]
             rfl
            refine pure_ (i := 7) (N := some 48) (v := ?_) (a' := ?_) #[true, false, true, false, false, false, false, true, false, false, false, false, false, false, false] rfl rfl (any_of HT_.out (by kernel_rfl)) (fun _ _ _ h => h) (Or.inl ⟨by rfl, ?_⟩) ?_ ?_
            rotate_left
            ·intro w'
             go_simp
             with_reducible rfl
            rotate_left
            ·simp only [Act.put, List.setIfInBounds_toArray, List.set_cons_zero, List.set_cons_succ, i64_w, i32_w]
             rfl
            refine take_ (i := 1) (N := some 42) (v := ?_) (a' := ?_) #[true, true, true, false, false, false, false, true, false, false, false, false, false, false, false] rfl rfl (take_ofW HT_.out HW_.out (by kernel_rfl)) (fun _ _ _ h => h) (Or.inl ⟨by rfl, ?_⟩) hHeld ?_ ?_
            rotate_left
            ·rintro w' ⟨s0, s1, s2, s3, s4, s5, s6, s7, s8, s9, s10, s11, s12⟩
             go_simp
             with_reducible rfl
            rotate_left
            ·simp only [Act.put, List.setIfInBounds_toArray, List.set_cons_zero, List.set_cons_succ, i64_w, i32_w]
             rfl
            refine take_ (i := 3) (N := some 44) (v := ?_) (a' := ?_) #[true, true, true, true, false, false, false, true, false, false, false, false, false, false, false] rfl rfl (take_ofW HT_.out HW_.out (by kernel_rfl)) (fun _ _ _ h => h) (Or.inl ⟨by rfl, ?_⟩) hHeld ?_ ?_
            rotate_left
            ·rintro w' ⟨s0, s1, s2, s3, s4, s5, s6, s7, s8, s9, s10, s11, s12⟩
             go_simp
             with_reducible rfl
            rotate_left
            ·simp only [Act.put, List.setIfInBounds_toArray, List.set_cons_zero, List.set_cons_succ, i64_w, i32_w]
             rfl
            refine pure_ (i := 4) (N := some 45) (v := ?_) (a' := ?_) #[true, true, true, true, true, false, false, true, false, false, false, false, false, false, false] rfl rfl (any_of HT_.out (by kernel_rfl)) (fun _ _ _ h => h) (Or.inl ⟨by rfl, ?_⟩) ?_ ?_
            rotate_left
            ·intro w'
             go_simp
             with_reducible rfl
            rotate_left
            ·simp only [Act.put, List.setIfInBounds_toArray, List.set_cons_zero, List.set_cons_succ, i64_w, i32_w]
             rfl
            refine pure_ (i := 5) (N := some 46) (v := ?_) (a' := ?_) #[true, true, true, true, true, true, false, true, false, false, false, false, false, false, false] rfl rfl (any_of HT_.out (by kernel_rfl)) (fun _ _ _ h => h) (Or.inl ⟨by rfl, ?_⟩) ?_ ?_
            rotate_left
            ·intro w'
             go_simp
             with_reducible rfl
            rotate_left
            ·simp only [Act.put, List.setIfInBounds_toArray, List.set_cons_zero, List.set_cons_succ, i64_w, i32_w]
             rfl
            refine take_ (i := 6) (N := some 47) (v := ?_) (a' := ?_) #[true, true, true, true, true, true, true, true, false, false, false, false, false, false, false] rfl rfl (take_ofW HT_.out HW_.out (by kernel_rfl)) (fun _ _ _ h => h) (Or.inl ⟨by rfl, ?_⟩) hHeld ?_ ?_
            rotate_left
            ·rintro w' ⟨s0, s1, s2, s3, s4, s5, s6, s7, s8, s9, s10, s11, s12⟩
             go_simp
             with_reducible rfl
            rotate_left
            ·simp only [Act.put, List.setIfInBounds_toArray, List.set_cons_zero, List.set_cons_succ, i64_w, i32_w]
             rfl
            refine take_ (i := 8) (N := some 49) (v := ?_) (a' := ?_) #[true, true, true, true, true, true, true, true, true, false, false, false, false, false, false] rfl rfl (take_ofW HT_.out HW_.out (by kernel_rfl)) (fun _ _ _ h => h) (Or.inl ⟨by rfl, ?_⟩) hHeld ?_ ?_
            rotate_left
            ·rintro w' ⟨s0, s1, s2, s3, s4, s5, s6, s7, s8, s9, s10, s11, s12⟩
             go_simp
             with_reducible rfl
            rotate_left
            ·simp only [Act.put, List.setIfInBounds_toArray, List.set_cons_zero, List.set_cons_succ, i64_w, i32_w]
             rfl
            refine pure_ (i := 9) (N := some 50) (v := ?_) (a' := ?_) #[true, true, true, true, true, true, true, true, true, true, false, false, false, false, false] rfl rfl (any_of HT_.out (by kernel_rfl)) (fun _ _ _ h => h) (Or.inl ⟨by rfl, ?_⟩) ?_ ?_
            rotate_left
            ·intro w'
             go_simp
             with_reducible rfl
            rotate_left
            ·simp only [Act.put, List.setIfInBounds_toArray, List.set_cons_zero, List.set_cons_succ, i64_w, i32_w]
             rfl
            refine pure_ (i := 10) (N := some 51) (v := ?_) (a' := ?_) #[true, true, true, true, true, true, true, true, true, true, true, false, false, false, false] rfl rfl (any_of HT_.out (by kernel_rfl)) (fun _ _ _ h => h) (Or.inl ⟨by rfl, ?_⟩) ?_ ?_
            rotate_left
            ·intro w'
             go_simp
             with_reducible rfl
            rotate_left
            ·simp only [Act.put, List.setIfInBounds_toArray, List.set_cons_zero, List.set_cons_succ, i64_w, i32_w]
             rfl
            refine take_ (i := 11) (N := some 52) (v := ?_) (a' := ?_) #[true, true, true, true, true, true, true, true, true, true, true, true, false, false, false] rfl rfl (take_ofW HT_.out HW_.out (by kernel_rfl)) (fun _ _ _ h => h) (Or.inl ⟨by rfl, ?_⟩) hHeld ?_ ?_
            rotate_left
            ·rintro w' ⟨s0, s1, s2, s3, s4, s5, s6, s7, s8, s9, s10, s11, s12⟩
             go_simp
             with_reducible rfl
            rotate_left
            ·simp only [Act.put, List.setIfInBounds_toArray, List.set_cons_zero, List.set_cons_succ, i64_w, i32_w]
             rfl
            refine pure_ (i := 12) (N := some 53) (v := ?_) (a' := ?_) #[true, true, true, true, true, true, true, true, true, true, true, true, true, false, false] rfl rfl (any_of HT_.out (by kernel_rfl)) (fun _ _ _ h => h) (Or.inl ⟨by rfl, ?_⟩) ?_ ?_
            rotate_left
            ·intro w'
             go_simp
             with_reducible rfl
            rotate_left
            ·simp only [Act.put, List.setIfInBounds_toArray, List.set_cons_zero, List.set_cons_succ, i64_w, i32_w]
             rfl
            refine one_ (i := 13) (N := some 6) #[true, true, true, true, true, true, true, true, true, true, true, true, true, true, false] rfl rfl (one_of HT_.out (by kernel_rfl)) (by decide) (fun K hK => ?_)
            refine box_step ?hg (N := 6) ?hd (cs := #[.int .i64 0, .int .i64 0, .string (⟨#[]⟩ : ByteArray)]) (t := 29) ?hr ?_; (case hd => rfl); (case hg => rfl); (case hr => first | (go_simp; done) | (go_simp; rfl))
            intro gb433 hg w42 hbox hb
            have HS7_ := (hb.cell (World.block_lt_of_cell? _ _ (hHeld.2.2.2.2.2.2.2.1))).trans (hHeld.2.2.2.2.2.2.2.1)
            have HS8_ := (hb.cell (World.block_lt_of_cell? _ _ (hHeld.2.2.2.2.2.2.2.2.1))).trans (hHeld.2.2.2.2.2.2.2.2.1)
            have HS9_ := (hb.cell (World.block_lt_of_cell? _ _ (hHeld.2.2.2.2.2.2.2.2.2.1))).trans (hHeld.2.2.2.2.2.2.2.2.2.1)
            have HS10_ := (hb.cell (World.block_lt_of_cell? _ _ (hHeld.2.2.2.2.2.2.2.2.2.2.1))).trans (hHeld.2.2.2.2.2.2.2.2.2.2.1)
            have HS11_ := (hb.cell (World.block_lt_of_cell? _ _ (hHeld.2.2.2.2.2.2.2.2.2.2.2.1))).trans (hHeld.2.2.2.2.2.2.2.2.2.2.2.1)
            have HS12_ := (hb.cell (World.block_lt_of_cell? _ _ (hHeld.2.2.2.2.2.2.2.2.2.2.2.2))).trans (hHeld.2.2.2.2.2.2.2.2.2.2.2.2)
            have n0_ := Aside0.mk (Kd.R_below (by (with_reducible repeat (first | apply Kd.R_alloc | apply Kd.R_drewN | apply Kd.R_drew)); exact HO424.out) hb)
            have n1_ := Aside0.mk (Kd.R_below (by (with_reducible repeat (first | apply Kd.R_alloc | apply Kd.R_drewN | apply Kd.R_drew)); exact HO427.out) hb)
            have n2_ := Aside0.mk (blk_below (g := gb416) (o := .cells #[.int .i64 0, .int .i64 0, .string (⟨#[]⟩ : ByteArray), .string (⟨#[]⟩ : ByteArray), .int .i64 0] 31 (0, 0)) blkA hb)
            have n3_ := Aside0.mk (blk_below (g := gb421) (o := .cells #[.int .i64 t417, .string t418, .string t419, .int .i64 t420] 93 (0, 0)) blkA hb)
            have n4_ := Aside0.mk (blk_below (g := gb430) (o := .cells #[.slice (some ad431) t425.length co36, .string t428, .int .i64 t429] 97 (0, 0)) blkA hb)
            have n5_ := Aside0.mk (below_step bwA hb)
            have n6_ := Aside0.mk (hbox)
            have n7_ := Aside0.mk ((by rw [hg]; exact (below_size bwA) : w.heap.size ≤ gb433))
            have n8_ := Aside0.mk ((by rw [hg]; exact (below_size bwA) : w.heap.size ≤ gb433))
            have n9_ := Aside0.mk ((by rw [hg]; exact Nat.ne_of_lt (blk_lt (g := gb416) (o := .cells #[.int .i64 0, .int .i64 0, .string (⟨#[]⟩ : ByteArray), .string (⟨#[]⟩ : ByteArray), .int .i64 0] 31 (0, 0)) blkA) : gb416 ≠ gb433))
            have n10_ := Aside0.mk ((by rw [hg]; exact Nat.ne_of_gt (blk_lt (g := gb416) (o := .cells #[.int .i64 0, .int .i64 0, .string (⟨#[]⟩ : ByteArray), .string (⟨#[]⟩ : ByteArray), .int .i64 0] 31 (0, 0)) blkA) : gb433 ≠ gb416))
            have n11_ := Aside0.mk ((by rw [hg]; exact Nat.ne_of_lt (blk_lt (g := gb421) (o := .cells #[.int .i64 t417, .string t418, .string t419, .int .i64 t420] 93 (0, 0)) blkA) : gb421 ≠ gb433))
            have n12_ := Aside0.mk ((by rw [hg]; exact Nat.ne_of_gt (blk_lt (g := gb421) (o := .cells #[.int .i64 t417, .string t418, .string t419, .int .i64 t420] 93 (0, 0)) blkA) : gb433 ≠ gb421))
            have n13_ := Aside0.mk ((by rw [hg]; exact Nat.ne_of_lt (blk_lt (g := gb430) (o := .cells #[.slice (some ad431) t425.length co36, .string t428, .int .i64 t429] 97 (0, 0)) blkA) : gb430 ≠ gb433))
            have n14_ := Aside0.mk ((by rw [hg]; exact Nat.ne_of_gt (blk_lt (g := gb430) (o := .cells #[.slice (some ad431) t425.length co36, .string t428, .int .i64 t429] 97 (0, 0)) blkA) : gb433 ≠ gb430))
            clear HO424
            clear HO427
            clear BK416
            clear BK421
            clear BK430
            clear HB
            have HO424 := n0_
            have HO427 := n1_
            have BK416 := n2_
            have BK421 := n3_
            have BK430 := n4_
            have HB := n5_
            have BK433 := n6_
            have GW433 := n7_
            have GE433 := n8_
            have NB416_433 := n9_
            have NB433_416 := n10_
            have NB421_433 := n11_
            have NB433_421 := n12_
            have NB430_433 := n13_
            have NB433_430 := n14_
            clear n0_ n1_ n2_ n3_ n4_ n5_ n6_ n7_ n8_ n9_ n10_ n11_ n12_ n13_ n14_
            clear hb hbox hg
            refine hK.out _ _ ⟨(blk_cell BK421.out 0).trans rfl, (blk_cell BK421.out 1).trans rfl, (blk_cell BK421.out 2).trans rfl, (blk_cell BK421.out 3).trans rfl, (blk_cell BK430.out 0).trans rfl, (blk_cell BK430.out 1).trans rfl, (blk_cell BK430.out 2).trans rfl, HS7_, HS8_, HS9_, HS10_, HS11_, HS12_⟩ (fun hHeld => ?_)
            clear hK K
            refine norm_ (a' := ?_) ?_ ?_
            rotate_left
            ·show Act.put _ (some 6) _ = _
             simp only [Act.put, List.setIfInBounds_toArray, List.set_cons_zero, List.set_cons_succ, i64_w, i32_w]
             rfl
            refine one_ (i := 14) (N := none) #[true, true, true, true, true, true, true, true, true, true, true, true, true, true, true] rfl rfl (one_of HT_.out (by kernel_rfl)) (by decide) (fun K hK => ?_)
            have hs43 : w42.cell? ⟨gb433, 0, none⟩ = some (.int .i64 0) := (blk_cell BK433.out 0).trans rfl
            have hfs43 := blk_frozen BK433.out 0
            have hns43_0 := NB416_433.out
            have hns43_1 := NB421_433.out
            have hns43_2 := NB430_433.out
            have hms43_0 := NB433_416.out
            have hms43_1 := NB433_421.out
            have hms43_2 := NB433_430.out
            have hs44 : w42.cell? ⟨gb433, 1, none⟩ = some (.int .i64 0) := (blk_cell BK433.out 1).trans rfl
            have hfs44 := blk_frozen BK433.out 1
            have hns44_0 := NB416_433.out
            have hns44_1 := NB421_433.out
            have hns44_2 := NB430_433.out
            have hms44_0 := NB433_416.out
            have hms44_1 := NB433_421.out
            have hms44_2 := NB433_430.out
            have hs45 : w42.cell? ⟨gb433, 2, none⟩ = some (.string (⟨#[]⟩ : ByteArray)) := (blk_cell BK433.out 2).trans rfl
            have hfs45 := blk_frozen BK433.out 2
            have hns45_0 := NB416_433.out
            have hns45_1 := NB421_433.out
            have hns45_2 := NB430_433.out
            have hms45_0 := NB433_416.out
            have hms45_1 := NB433_421.out
            have hms45_2 := NB433_430.out
            refine skip_ (w1 := ?_) (by rfl) rfl ?_ ?_
            rotate_left
            ·go_simp
             rfl
            have nz0_ := Aside0.mk (Kd.own_blk (Kd.R_ne HO427.out BK433.out (by decide)))
            refine hK.out _ _ ⟨far3 NB421_433.out hHeld.1, far3 NB421_433.out hHeld.2.1, far3 NB421_433.out hHeld.2.2.1, far3 NB421_433.out hHeld.2.2.2.1, far3 NB430_433.out hHeld.2.2.2.2.1, far3 NB430_433.out hHeld.2.2.2.2.2.1, far3 NB430_433.out hHeld.2.2.2.2.2.2.1, far3 nz0_.out hHeld.2.2.2.2.2.2.2.1, far3 nz0_.out hHeld.2.2.2.2.2.2.2.2.1, far3 nz0_.out hHeld.2.2.2.2.2.2.2.2.2.1, far3 nz0_.out hHeld.2.2.2.2.2.2.2.2.2.2.1, far3 nz0_.out hHeld.2.2.2.2.2.2.2.2.2.2.2.1, far3 nz0_.out hHeld.2.2.2.2.2.2.2.2.2.2.2.2⟩ (fun hHeld => ?_)
            clear hK K
            refine done_ (done_of HT_.out (by kernel_rfl)) ?_
            have hnb46 := NB433_416.out
            have hnc46 := NB416_433.out
            have hnb47 := NB433_421.out
            have hnc47 := NB421_433.out
            have hnb48 := NB433_430.out
            have hnc48 := NB430_433.out
            have hcz49_0 : w42.cell? ⟨gb433, 0, none⟩ = some (.int .i64 0) := (blk_cell BK433.out 0).trans rfl
            have hcz49_1 : w42.cell? ⟨gb433, 1, none⟩ = some (.int .i64 0) := (blk_cell BK433.out 1).trans rfl
            have hcz49_2 : w42.cell? ⟨gb433, 2, none⟩ = some (.string (⟨#[]⟩ : ByteArray)) := (blk_cell BK433.out 2).trans rfl
            have hfz49_0 := blk_frozen BK433.out 0
            have hfz49_1 := blk_frozen BK433.out 1
            have hfz49_2 := blk_frozen BK433.out 2
            try go_wp2_with (first | ((with_reducible refine gate_callee (f := 29) rfl ?_); refine goesA (some 55) Tryd.func29 #[.agg #[.int .i64 t417, .int .i64 ((rd_T99 t425 0).f1), .string ((rd_T99 t425 0).f2)]] ?_; (with_reducible refine (caduceusref03_Check.calls kj14 t417 ((rd_T99 t425 0).f1) ((rd_T99 t425 0).f2) true _ A27.out).mono ?_); rintro e w50 ⟨rfl, hb⟩; refine ⟨_, rfl, ?_⟩; have n0_ := Aside0.mk (Kd.R_below (by (with_reducible repeat (first | apply Kd.R_alloc | apply Kd.R_drewN | apply Kd.R_drew)); exact (Kd.R_mono (Kd.R_far (p := ⟨gb433, 2, none⟩) (Kd.R_far (p := ⟨gb433, 1, none⟩) (Kd.R_far (p := ⟨gb433, 0, none⟩) (Kd.R_types HO424.out BK433.out (by decide)) (fun _ hk => hk.2) (.int .i64 t417)) (fun _ hk => hk.2) (.int .i64 ((rd_T99 t425 0).f1))) (fun _ hk => hk.2) (.string ((rd_T99 t425 0).f2))) (fun _ h_ => h_.1))) hb); have n1_ := Aside0.mk (Kd.R_below (by (with_reducible repeat (first | apply Kd.R_alloc | apply Kd.R_drewN | apply Kd.R_drew)); exact (Kd.R_mono (Kd.R_far (p := ⟨gb433, 2, none⟩) (Kd.R_far (p := ⟨gb433, 1, none⟩) (Kd.R_far (p := ⟨gb433, 0, none⟩) (Kd.R_types HO427.out BK433.out (by decide)) (fun _ hk => hk.2) (.int .i64 t417)) (fun _ hk => hk.2) (.int .i64 ((rd_T99 t425 0).f1))) (fun _ hk => hk.2) (.string ((rd_T99 t425 0).f2))) (fun _ h_ => h_.1))) hb); have n2_ := Aside0.mk (blk_below (g := gb416) (o := .cells #[.int .i64 0, .int .i64 0, .string (⟨#[]⟩ : ByteArray), .string (⟨#[]⟩ : ByteArray), .int .i64 0] 31 (0, 0)) (by (with_reducible repeat (first | refine blk_drewN ?_ _ | refine blk_drew ?_ | refine blk_alloc ?_ _)); refine blk_far ?_ NB416_433.out _; (with_reducible repeat (first | refine blk_drewN ?_ _ | refine blk_drew ?_ | refine blk_alloc ?_ _)); refine blk_far ?_ NB416_433.out _; (with_reducible repeat (first | refine blk_drewN ?_ _ | refine blk_drew ?_ | refine blk_alloc ?_ _)); refine blk_far ?_ NB416_433.out _; (with_reducible repeat (first | refine blk_drewN ?_ _ | refine blk_drew ?_ | refine blk_alloc ?_ _)); exact BK416.out) hb); have n3_ := Aside0.mk (blk_below (g := gb421) (o := .cells #[.int .i64 t417, .string t418, .string t419, .int .i64 t420] 93 (0, 0)) (by (with_reducible repeat (first | refine blk_drewN ?_ _ | refine blk_drew ?_ | refine blk_alloc ?_ _)); refine blk_far ?_ NB421_433.out _; (with_reducible repeat (first | refine blk_drewN ?_ _ | refine blk_drew ?_ | refine blk_alloc ?_ _)); refine blk_far ?_ NB421_433.out _; (with_reducible repeat (first | refine blk_drewN ?_ _ | refine blk_drew ?_ | refine blk_alloc ?_ _)); refine blk_far ?_ NB421_433.out _; (with_reducible repeat (first | refine blk_drewN ?_ _ | refine blk_drew ?_ | refine blk_alloc ?_ _)); exact BK421.out) hb); have n4_ := Aside0.mk (blk_below (g := gb430) (o := .cells #[.slice (some ad431) t425.length co36, .string t428, .int .i64 t429] 97 (0, 0)) (by (with_reducible repeat (first | refine blk_drewN ?_ _ | refine blk_drew ?_ | refine blk_alloc ?_ _)); refine blk_far ?_ NB430_433.out _; (with_reducible repeat (first | refine blk_drewN ?_ _ | refine blk_drew ?_ | refine blk_alloc ?_ _)); refine blk_far ?_ NB430_433.out _; (with_reducible repeat (first | refine blk_drewN ?_ _ | refine blk_drew ?_ | refine blk_alloc ?_ _)); refine blk_far ?_ NB430_433.out _; (with_reducible repeat (first | refine blk_drewN ?_ _ | refine blk_drew ?_ | refine blk_alloc ?_ _)); exact BK430.out) hb); have n5_ := Aside0.mk (blk_below (g := gb433) (o := .cells #[.int .i64 t417, .int .i64 ((rd_T99 t425 0).f1), .string ((rd_T99 t425 0).f2)] 29 (0, 0)) (by (with_reducible repeat (first | refine blk_drewN ?_ _ | refine blk_drew ?_ | refine blk_alloc ?_ _)); refine blk_put (cs := #[.int .i64 t417, .int .i64 ((rd_T99 t425 0).f1), .string (⟨#[]⟩ : ByteArray)]) ?_ 2 _ rfl; (with_reducible repeat (first | refine blk_drewN ?_ _ | refine blk_drew ?_ | refine blk_alloc ?_ _)); refine blk_put (cs := #[.int .i64 t417, .int .i64 0, .string (⟨#[]⟩ : ByteArray)]) ?_ 1 _ rfl; (with_reducible repeat (first | refine blk_drewN ?_ _ | refine blk_drew ?_ | refine blk_alloc ?_ _)); refine blk_put (cs := #[.int .i64 0, .int .i64 0, .string (⟨#[]⟩ : ByteArray)]) ?_ 0 _ rfl; (with_reducible repeat (first | refine blk_drewN ?_ _ | refine blk_drew ?_ | refine blk_alloc ?_ _)); exact BK433.out) hb); have n6_ := Aside0.mk (below_step bwA hb); clear HO424; clear HO427; clear BK416; clear BK421; clear BK430; clear BK433; clear HB; have HO424 := n0_; have HO427 := n1_; have BK416 := n2_; have BK421 := n3_; have BK430 := n4_; have BK433 := n5_; have HB := n6_; clear n0_ n1_ n2_ n3_ n4_ n5_ n6_; (try clear hb); (try clear hb2); (try clear hk); (try clear hi); have hcz51_0 : w50.cell? ⟨gb433, 0, none⟩ = some (.int .i64 t417) := (blk_cell BK433.out 0).trans rfl; have hcz51_1 : w50.cell? ⟨gb433, 1, none⟩ = some (.int .i64 ((rd_T99 t425 0).f1)) := (blk_cell BK433.out 1).trans rfl; have hcz51_2 : w50.cell? ⟨gb433, 2, none⟩ = some (.string ((rd_T99 t425 0).f2)) := (blk_cell BK433.out 2).trans rfl; have hfz51_0 := blk_frozen BK433.out 0; have hfz51_1 := blk_frozen BK433.out 1; have hfz51_2 := blk_frozen BK433.out 2; have hcz52_0 : w50.cell? ⟨gb430, 0, none⟩ = some (.slice (some ad431) t425.length co36) := (blk_cell BK430.out 0).trans rfl; have hcz52_1 : w50.cell? ⟨gb430, 1, none⟩ = some (.string t428) := (blk_cell BK430.out 1).trans rfl; have hcz52_2 : w50.cell? ⟨gb430, 2, none⟩ = some (.int .i64 t429) := (blk_cell BK430.out 2).trans rfl; have hfz52_0 := blk_frozen BK430.out 0; have hfz52_1 := blk_frozen BK430.out 1; have hfz52_2 := blk_frozen BK430.out 2; have hcz53_0 : w50.cell? ⟨gb416, 0, none⟩ = some (.int .i64 0) := (blk_cell BK416.out 0).trans rfl; have hcz53_1 : w50.cell? ⟨gb416, 1, none⟩ = some (.int .i64 0) := (blk_cell BK416.out 1).trans rfl; have hcz53_2 : w50.cell? ⟨gb416, 2, none⟩ = some (.string (⟨#[]⟩ : ByteArray)) := (blk_cell BK416.out 2).trans rfl; have hcz53_3 : w50.cell? ⟨gb416, 3, none⟩ = some (.string (⟨#[]⟩ : ByteArray)) := (blk_cell BK416.out 3).trans rfl; have hcz53_4 : w50.cell? ⟨gb416, 4, none⟩ = some (.int .i64 0) := (blk_cell BK416.out 4).trans rfl; have hfz53_0 := blk_frozen BK416.out 0; have hfz53_1 := blk_frozen BK416.out 1; have hfz53_2 := blk_frozen BK416.out 2; have hfz53_3 := blk_frozen BK416.out 3; have hfz53_4 := blk_frozen BK416.out 4))
            refine bodyPost_ret (results_cell_row rfl _ _ gb416 31 #[.int .i64 t417, .int .i64 ((rd_T99 t425 0).f1), .string ((rd_T99 t425 0).f2), .string t428, .int .i64 0] (0, 0) _ rfl (by (with_reducible repeat (first | refine blk_drewN ?_ _ | refine blk_drew ?_ | refine blk_alloc ?_ _)); refine blk_put (cs := #[.int .i64 t417, .int .i64 ((rd_T99 t425 0).f1), .string ((rd_T99 t425 0).f2), .string t428, .int .i64 0]) ?_ 4 _ rfl; (with_reducible repeat (first | refine blk_drewN ?_ _ | refine blk_drew ?_ | refine blk_alloc ?_ _)); refine blk_put (cs := #[.int .i64 t417, .int .i64 ((rd_T99 t425 0).f1), .string ((rd_T99 t425 0).f2), .string (⟨#[]⟩ : ByteArray), .int .i64 0]) ?_ 3 _ rfl; (with_reducible repeat (first | refine blk_drewN ?_ _ | refine blk_drew ?_ | refine blk_alloc ?_ _)); refine blk_put (cs := #[.int .i64 t417, .int .i64 ((rd_T99 t425 0).f1), .string (⟨#[]⟩ : ByteArray), .string (⟨#[]⟩ : ByteArray), .int .i64 0]) ?_ 2 _ rfl; (with_reducible repeat (first | refine blk_drewN ?_ _ | refine blk_drew ?_ | refine blk_alloc ?_ _)); refine blk_put (cs := #[.int .i64 t417, .int .i64 0, .string (⟨#[]⟩ : ByteArray), .string (⟨#[]⟩ : ByteArray), .int .i64 0]) ?_ 1 _ rfl; (with_reducible repeat (first | refine blk_drewN ?_ _ | refine blk_drew ?_ | refine blk_alloc ?_ _)); refine blk_put (cs := #[.int .i64 0, .int .i64 0, .string (⟨#[]⟩ : ByteArray), .string (⟨#[]⟩ : ByteArray), .int .i64 0]) ?_ 0 _ rfl; (with_reducible repeat (first | refine blk_drewN ?_ _ | refine blk_drew ?_ | refine blk_alloc ?_ _)); exact BK416.out) Tryd.underlying31 rfl (by kernel_rfl)) rfl ?_
            exact ⟨by first | rfl | (simp [errW_none, errW_some] <;> rfl) | (simp [*, errW_none, errW_some] <;> rfl), by repeat (first | (with_reducible first | exact HB.out | apply below_alloc | apply pw_below_drewN | apply below_drew1 | refine below_set ?_ GE416.out | refine below_set ?_ GE421.out | refine below_set ?_ GE430.out | refine below_set ?_ GE433.out) | exact HB.out)⟩
           ·replace c28 := Bool.eq_false_iff.mpr c28
            subst c28
            have H1 : (some (0, 0, (⟨#[]⟩ : ByteArray), (⟨#[]⟩ : ByteArray), 3)) = some (r1, r2, r3, r4, r5) := by rw [if_neg (show ¬ (false = true) by decide)] at H; exact H
            clear H
            have H := H1
            clear H1
            simp only [Option.some.injEq, Prod.mk.injEq] at H
            obtain ⟨rfl, rfl, rfl, rfl, rfl⟩ := H
            have hnb54 := NB421_416.out
            have hnc54 := NB416_421.out
            have hcz55_0 : wc.cell? ⟨gb421, 0, none⟩ = some (.int .i64 t417) := (blk_cell BK421.out 0).trans rfl
            have hcz55_1 : wc.cell? ⟨gb421, 1, none⟩ = some (.string t418) := (blk_cell BK421.out 1).trans rfl
            have hcz55_2 : wc.cell? ⟨gb421, 2, none⟩ = some (.string t419) := (blk_cell BK421.out 2).trans rfl
            have hcz55_3 : wc.cell? ⟨gb421, 3, none⟩ = some (.int .i64 t420) := (blk_cell BK421.out 3).trans rfl
            have hfz55_0 := blk_frozen BK421.out 0
            have hfz55_1 := blk_frozen BK421.out 1
            have hfz55_2 := blk_frozen BK421.out 2
            have hfz55_3 := blk_frozen BK421.out 3
            try go_wp2_with (first | ((with_reducible refine gate_dst (N := 33) rfl ?_); refine Kd.R_lit (Kd.int .i64) _ 3 ?hg (N := 33) ?hd (xs := ([x4_10] : List Int)) (inner := [.int .i64 x4_10]) (ok := fun _ => True) (okp := fun _ => True) ?hr ?hp (fun _ hk => hk) trivial (Below.refl _ _) (Nat.le_refl _) (by simp) ?_; (case hd => rfl); (case hg => rfl); (case hr => first | (go_simp; done) | (go_simp; rfl)); (case hp => exact (Reps.one (show Kd.M (Kd.int .i64) _ _ _ x4_10 [.int .i64 x4_10] from rfl) (Reps.none _ _))); intro v423 w56 ho57 hb hg_ hnew_; clear hg_ hnew_; (first | rw [← Ny422.out] at ho57 | (simp only [Int.reduceToNat] at ho57; rw [← Ny422.out] at ho57)); have n0_ := Aside0.mk (Kd.R_lower ho57 (below_size bwA)); have n1_ := Aside0.mk (blk_below (g := gb416) (o := .cells #[.int .i64 0, .int .i64 0, .string (⟨#[]⟩ : ByteArray), .string (⟨#[]⟩ : ByteArray), .int .i64 0] 31 (0, 0)) blkA hb); have n2_ := Aside0.mk (blk_below (g := gb421) (o := .cells #[.int .i64 t417, .string t418, .string t419, .int .i64 t420] 93 (0, 0)) blkA hb); have n3_ := Aside0.mk (below_step bwA hb); clear BK416; clear BK421; clear HB; have HO424 := n0_; have BK416 := n1_; have BK421 := n2_; have HB := n3_; clear n0_ n1_ n2_ n3_; clear hb ho57; obtain ⟨Ao58, co58, eo58⟩ := Kd.R_slice HO424.out; subst eo58) | ((with_reducible refine gate_callee (f := 65) rfl ?_); refine goesA (some 34) Tryd.func65 #[.string t419, .slice Ao58 y422.length co58] ?_; (with_reducible refine (caduceusref01_Take.calls kj14 t419 _ _ y422 t425 t428 t429 _ ?side1 ?side2 A24.out).mono ?_); (case side1 => repeat (first | exact (Kd.R_reads' HO424.out).2.2 | (with_reducible refine Kd.C_alloc ?_ _) | (with_reducible refine Kd.C_drewN ?_ _) | (with_reducible refine Kd.C_drew ?_))); (case side2 => exact (Kd.R_reads' HO424.out).2.1); rintro e w59 ⟨v426, rfl, ho0, hb⟩; refine ⟨_, rfl, ?_⟩; have n0_ := Aside0.mk (Kd.R_below (by (with_reducible repeat (first | apply Kd.R_alloc | apply Kd.R_drewN | apply Kd.R_drew)); exact HO424.out) hb); have n1_ := Aside0.mk (Kd.R_lower ho0 (below_size bwA)); have n2_ := Aside0.mk (blk_below (g := gb416) (o := .cells #[.int .i64 0, .int .i64 0, .string (⟨#[]⟩ : ByteArray), .string (⟨#[]⟩ : ByteArray), .int .i64 0] 31 (0, 0)) blkA hb); have n3_ := Aside0.mk (blk_below (g := gb421) (o := .cells #[.int .i64 t417, .string t418, .string t419, .int .i64 t420] 93 (0, 0)) blkA hb); have n4_ := Aside0.mk (below_step bwA hb); clear HO424; clear BK416; clear BK421; clear HB; have HO424 := n0_; have HO427 := n1_; have BK416 := n2_; have BK421 := n3_; have HB := n4_; clear n0_ n1_ n2_ n3_ n4_; (try clear hb); (try clear hb2); (try clear hk); (try clear hi); (try clear ho0)) | ((with_reducible refine gate_dst (N := 5) rfl ?_); refine box_event ?hg (N := 5) ?hd (cs := #[.slice none 0 0, .string (⟨#[]⟩ : ByteArray), .int .i64 0]) (t := 97) ?hr ?_; (case hd => rfl); (case hg => rfl); (case hr => first | (go_simp; done) | (go_simp; rfl)); intro gb430 hg w60 hbox hb; have n0_ := Aside0.mk (Kd.R_below (by (with_reducible repeat (first | apply Kd.R_alloc | apply Kd.R_drewN | apply Kd.R_drew)); exact HO424.out) hb); have n1_ := Aside0.mk (Kd.R_below (by (with_reducible repeat (first | apply Kd.R_alloc | apply Kd.R_drewN | apply Kd.R_drew)); exact HO427.out) hb); have n2_ := Aside0.mk (blk_below (g := gb416) (o := .cells #[.int .i64 0, .int .i64 0, .string (⟨#[]⟩ : ByteArray), .string (⟨#[]⟩ : ByteArray), .int .i64 0] 31 (0, 0)) blkA hb); have n3_ := Aside0.mk (blk_below (g := gb421) (o := .cells #[.int .i64 t417, .string t418, .string t419, .int .i64 t420] 93 (0, 0)) blkA hb); have n4_ := Aside0.mk (below_step bwA hb); have n5_ := Aside0.mk (hbox); have n6_ := Aside0.mk ((by rw [hg]; exact (below_size bwA) : w.heap.size ≤ gb430)); have n7_ := Aside0.mk ((by rw [hg]; exact (below_size bwA) : w.heap.size ≤ gb430)); have n8_ := Aside0.mk ((by rw [hg]; exact Nat.ne_of_lt (blk_lt (g := gb416) (o := .cells #[.int .i64 0, .int .i64 0, .string (⟨#[]⟩ : ByteArray), .string (⟨#[]⟩ : ByteArray), .int .i64 0] 31 (0, 0)) blkA) : gb416 ≠ gb430)); have n9_ := Aside0.mk ((by rw [hg]; exact Nat.ne_of_gt (blk_lt (g := gb416) (o := .cells #[.int .i64 0, .int .i64 0, .string (⟨#[]⟩ : ByteArray), .string (⟨#[]⟩ : ByteArray), .int .i64 0] 31 (0, 0)) blkA) : gb430 ≠ gb416)); have n10_ := Aside0.mk ((by rw [hg]; exact Nat.ne_of_lt (blk_lt (g := gb421) (o := .cells #[.int .i64 t417, .string t418, .string t419, .int .i64 t420] 93 (0, 0)) blkA) : gb421 ≠ gb430)); have n11_ := Aside0.mk ((by rw [hg]; exact Nat.ne_of_gt (blk_lt (g := gb421) (o := .cells #[.int .i64 t417, .string t418, .string t419, .int .i64 t420] 93 (0, 0)) blkA) : gb430 ≠ gb421)); clear HO424; clear HO427; clear BK416; clear BK421; clear HB; have HO424 := n0_; have HO427 := n1_; have BK416 := n2_; have BK421 := n3_; have HB := n4_; have BK430 := n5_; have GW430 := n6_; have GE430 := n7_; have NB416_430 := n8_; have NB430_416 := n9_; have NB421_430 := n10_; have NB430_421 := n11_; clear n0_ n1_ n2_ n3_ n4_ n5_ n6_ n7_ n8_ n9_ n10_ n11_; clear hb hbox hg; obtain ⟨Ao61, co61, eo61⟩ := Kd.R_slice HO427.out; subst eo61; have hnb62 := NB430_416.out; have hnc62 := NB416_430.out; have hnb63 := NB430_421.out; have hnc63 := NB421_430.out; have hcz64_0 : w60.cell? ⟨gb430, 0, none⟩ = some (.slice none 0 0) := (blk_cell BK430.out 0).trans rfl; have hcz64_1 : w60.cell? ⟨gb430, 1, none⟩ = some (.string (⟨#[]⟩ : ByteArray)) := (blk_cell BK430.out 1).trans rfl; have hcz64_2 : w60.cell? ⟨gb430, 2, none⟩ = some (.int .i64 0) := (blk_cell BK430.out 2).trans rfl; have hfz64_0 := blk_frozen BK430.out 0; have hfz64_1 := blk_frozen BK430.out 1; have hfz64_2 := blk_frozen BK430.out 2))
            have n0_ : Aside0 (Kd.R (Kd.int .i64) 3 (((w60.setCell ⟨gb430, 0, none⟩ (.slice Ao61 t425.length co61)).setCell ⟨gb430, 1, none⟩ (.string t428)).setCell ⟨gb430, 2, none⟩ (.int .i64 t429)) w.heap.size (fun _ => True) (.slice Ao58 y422.length co58) y422) := ⟨by (with_reducible repeat (first | apply Kd.R_alloc | apply Kd.R_drewN | apply Kd.R_drew)); exact Kd.R_mono (Kd.R_far (p := ⟨gb430, 2, none⟩) (Kd.R_far (p := ⟨gb430, 1, none⟩) (Kd.R_far (p := ⟨gb430, 0, none⟩) (Kd.R_types HO424.out BK430.out (by decide)) (fun _ hk => hk.2) (.slice Ao61 t425.length co61)) (fun _ hk => hk.2) (.string t428)) (fun _ hk => hk.2) (.int .i64 t429)) (fun _ hk => trivial)⟩
            have n1_ : Aside0 (Kd.R k99 99 (((w60.setCell ⟨gb430, 0, none⟩ (.slice Ao61 t425.length co61)).setCell ⟨gb430, 1, none⟩ (.string t428)).setCell ⟨gb430, 2, none⟩ (.int .i64 t429)) w.heap.size (fun _ => True) (.slice Ao61 t425.length co61) t425) := ⟨by (with_reducible repeat (first | apply Kd.R_alloc | apply Kd.R_drewN | apply Kd.R_drew)); exact Kd.R_mono (Kd.R_far (p := ⟨gb430, 2, none⟩) (Kd.R_far (p := ⟨gb430, 1, none⟩) (Kd.R_far (p := ⟨gb430, 0, none⟩) (Kd.R_types HO427.out BK430.out (by decide)) (fun _ hk => hk.2) (.slice Ao61 t425.length co61)) (fun _ hk => hk.2) (.string t428)) (fun _ hk => hk.2) (.int .i64 t429)) (fun _ hk => trivial)⟩
            have n2_ : Aside0 ((((w60.setCell ⟨gb430, 0, none⟩ (.slice Ao61 t425.length co61)).setCell ⟨gb430, 1, none⟩ (.string t428)).setCell ⟨gb430, 2, none⟩ (.int .i64 t429)).heap[gb416]? = some (.cells #[.int .i64 0, .int .i64 0, .string (⟨#[]⟩ : ByteArray), .string (⟨#[]⟩ : ByteArray), .int .i64 0] 31 (0, 0))) := ⟨by (with_reducible repeat (first | refine blk_drewN ?_ _ | refine blk_drew ?_ | refine blk_alloc ?_ _)); refine blk_far ?_ NB416_430.out _; (with_reducible repeat (first | refine blk_drewN ?_ _ | refine blk_drew ?_ | refine blk_alloc ?_ _)); refine blk_far ?_ NB416_430.out _; (with_reducible repeat (first | refine blk_drewN ?_ _ | refine blk_drew ?_ | refine blk_alloc ?_ _)); refine blk_far ?_ NB416_430.out _; (with_reducible repeat (first | refine blk_drewN ?_ _ | refine blk_drew ?_ | refine blk_alloc ?_ _)); exact BK416.out⟩
            have n3_ : Aside0 ((((w60.setCell ⟨gb430, 0, none⟩ (.slice Ao61 t425.length co61)).setCell ⟨gb430, 1, none⟩ (.string t428)).setCell ⟨gb430, 2, none⟩ (.int .i64 t429)).heap[gb421]? = some (.cells #[.int .i64 t417, .string t418, .string t419, .int .i64 t420] 93 (0, 0))) := ⟨by (with_reducible repeat (first | refine blk_drewN ?_ _ | refine blk_drew ?_ | refine blk_alloc ?_ _)); refine blk_far ?_ NB421_430.out _; (with_reducible repeat (first | refine blk_drewN ?_ _ | refine blk_drew ?_ | refine blk_alloc ?_ _)); refine blk_far ?_ NB421_430.out _; (with_reducible repeat (first | refine blk_drewN ?_ _ | refine blk_drew ?_ | refine blk_alloc ?_ _)); refine blk_far ?_ NB421_430.out _; (with_reducible repeat (first | refine blk_drewN ?_ _ | refine blk_drew ?_ | refine blk_alloc ?_ _)); exact BK421.out⟩
            have n4_ : Aside0 ((((w60.setCell ⟨gb430, 0, none⟩ (.slice Ao61 t425.length co61)).setCell ⟨gb430, 1, none⟩ (.string t428)).setCell ⟨gb430, 2, none⟩ (.int .i64 t429)).heap[gb430]? = some (.cells #[.slice Ao61 t425.length co61, .string t428, .int .i64 t429] 97 (0, 0))) := ⟨by (with_reducible repeat (first | refine blk_drewN ?_ _ | refine blk_drew ?_ | refine blk_alloc ?_ _)); refine blk_put (cs := #[.slice Ao61 t425.length co61, .string t428, .int .i64 0]) ?_ 2 _ rfl; (with_reducible repeat (first | refine blk_drewN ?_ _ | refine blk_drew ?_ | refine blk_alloc ?_ _)); refine blk_put (cs := #[.slice Ao61 t425.length co61, .string (⟨#[]⟩ : ByteArray), .int .i64 0]) ?_ 1 _ rfl; (with_reducible repeat (first | refine blk_drewN ?_ _ | refine blk_drew ?_ | refine blk_alloc ?_ _)); refine blk_put (cs := #[.slice none 0 0, .string (⟨#[]⟩ : ByteArray), .int .i64 0]) ?_ 0 _ rfl; (with_reducible repeat (first | refine blk_drewN ?_ _ | refine blk_drew ?_ | refine blk_alloc ?_ _)); exact BK430.out⟩
            have n5_ : Aside0 (Below w.heap.size w (((w60.setCell ⟨gb430, 0, none⟩ (.slice Ao61 t425.length co61)).setCell ⟨gb430, 1, none⟩ (.string t428)).setCell ⟨gb430, 2, none⟩ (.int .i64 t429))) := ⟨by repeat (first | (with_reducible first | exact HB.out | apply below_alloc | apply pw_below_drewN | apply below_drew1 | refine below_set ?_ GE416.out | refine below_set ?_ GE421.out | refine below_set ?_ GE430.out) | exact HB.out)⟩
            (try clear HO424)
            (try clear HO427)
            (try clear BK416)
            (try clear BK421)
            (try clear BK430)
            (try clear HB)
            generalize (((w60.setCell ⟨gb430, 0, none⟩ (.slice Ao61 t425.length co61)).setCell ⟨gb430, 1, none⟩ (.string t428)).setCell ⟨gb430, 2, none⟩ (.int .i64 t429)) = w65 at n0_ n1_ n2_ n3_ n4_ n5_ ⊢
            have HO424 := n0_
            have HO427 := n1_
            have BK416 := n2_
            have BK421 := n3_
            have BK430 := n4_
            have HB := n5_
            clear n0_ n1_ n2_ n3_ n4_ n5_
            have n0_ := Aside0.mk (Kd.R_drew HO424.out)
            have n1_ := Aside0.mk (Kd.R_drew HO427.out)
            have n2_ := Aside0.mk (blk_drew BK416.out)
            have n3_ := Aside0.mk (blk_drew BK421.out)
            have n4_ := Aside0.mk (blk_drew BK430.out)
            have n5_ := Aside0.mk (below_drew1 HB.out)
            clear HO424
            clear HO427
            clear BK416
            clear BK421
            clear BK430
            clear HB
            have HO424 := n0_
            have HO427 := n1_
            have BK416 := n2_
            have BK421 := n3_
            have BK430 := n4_
            have HB := n5_
            clear n0_ n1_ n2_ n3_ n4_ n5_
            have p431 : 0 ≤ (0 : Int) := (by omega)
            have q431 : 0 < (t425.length : Int) := of_decide_eq_true (by first | (with_reducible assumption) | assumption)
            obtain ⟨ad431, e431, hx431_0, hx431_1, hx431_2⟩ := at_T99 (Kd.R_reads' HO427.out).2.2 0 p431 q431
            cases e431
            have qi431 : (0 < t425.length) = True := eq_true (by omega)
            (try rw [show ((0 : Int)).toNat = 0 from rfl] at hx431_0)
            (try rw [show 0 * 3 = 0 from rfl] at hx431_0)
            (try rw [Addr.add_zero'] at hx431_0)
            (try rw [show ((0 : Int)).toNat = 0 from rfl] at hx431_1)
            (try rw [show 0 * 3 = 0 from rfl] at hx431_1)
            (try rw [Addr.add_zero'] at hx431_1)
            (try rw [show ((0 : Int)).toNat = 0 from rfl] at hx431_2)
            (try rw [show 0 * 3 = 0 from rfl] at hx431_2)
            (try rw [Addr.add_zero'] at hx431_2)
            replace p431 := eq_true p431
            replace q431 := eq_true q431
            have p432 : 0 ≤ (0 : Int) := (by omega)
            have q432 : 0 < (t425.length : Int) := of_decide_eq_true (by first | (with_reducible assumption) | assumption)
            obtain ⟨ad432, e432, hx432_0, hx432_1, hx432_2⟩ := at_T99 (Kd.R_reads' HO427.out).2.2 0 p432 q432
            obtain rfl : ad431 = ad432 := (by injection e432)
            have qi432 : (0 < t425.length) = True := eq_true (by omega)
            (try rw [show ((0 : Int)).toNat = 0 from rfl] at hx432_0)
            (try rw [show 0 * 3 = 0 from rfl] at hx432_0)
            (try rw [Addr.add_zero'] at hx432_0)
            (try rw [show ((0 : Int)).toNat = 0 from rfl] at hx432_1)
            (try rw [show 0 * 3 = 0 from rfl] at hx432_1)
            (try rw [Addr.add_zero'] at hx432_1)
            (try rw [show ((0 : Int)).toNat = 0 from rfl] at hx432_2)
            (try rw [show 0 * 3 = 0 from rfl] at hx432_2)
            (try rw [Addr.add_zero'] at hx432_2)
            replace p432 := eq_true p432
            replace q432 := eq_true q432
            refine start_ (n := 15) (S := fun w' => w'.cell? ⟨gb421, 0, none⟩ = some (.int .i64 t417) ∧ w'.cell? ⟨gb421, 1, none⟩ = some (.string t418) ∧ w'.cell? ⟨gb421, 2, none⟩ = some (.string t419) ∧ w'.cell? ⟨gb421, 3, none⟩ = some (.int .i64 t420) ∧ w'.cell? ⟨gb430, 0, none⟩ = some (.slice (some ad431) t425.length co61) ∧ w'.cell? ⟨gb430, 1, none⟩ = some (.string t428) ∧ w'.cell? ⟨gb430, 2, none⟩ = some (.int .i64 t429) ∧ w'.cell? ad431 = some (.int .i64 ((rd_T99 t425 0).f0)) ∧ w'.cell? ⟨ad431.block, ad431.off + 1, none⟩ = some (.int .i64 ((rd_T99 t425 0).f1)) ∧ w'.cell? ⟨ad431.block, ad431.off + 2, none⟩ = some (.string ((rd_T99 t425 0).f2)) ∧ w'.cell? ad431 = some (.int .i64 ((rd_T99 t425 0).f0)) ∧ w'.cell? ⟨ad431.block, ad431.off + 1, none⟩ = some (.int .i64 ((rd_T99 t425 0).f1)) ∧ w'.cell? ⟨ad431.block, ad431.off + 2, none⟩ = some (.string ((rd_T99 t425 0).f2))) (ds := []) #[false, false, false, false, false, false, false, false, false, false, false, false, false, false, false] (by kernel_rfl) rfl rfl ⟨(blk_cell BK421.out 0).trans rfl, (blk_cell BK421.out 1).trans rfl, (blk_cell BK421.out 2).trans rfl, (blk_cell BK421.out 3).trans rfl, (blk_cell BK430.out 0).trans rfl, (blk_cell BK430.out 1).trans rfl, (blk_cell BK430.out 2).trans rfl, hx431_0, hx431_1, hx431_2, hx432_0, hx432_1, hx432_2⟩ (fun hHeld => ?_); refine with_tabW caduceusref03_Read.tab14 caduceusref03_Read.bits14 (fun HT_ HW_ => ?_)
            generalize w65.drew = w66 at HO424 HO427 BK416 BK421 BK430 HB hx431_0 hx431_1 hx431_2 hx432_0 hx432_1 hx432_2 hHeld ⊢
            refine pure_ (i := 0) (N := some 41) (v := ?_) (a' := ?_) #[true, false, false, false, false, false, false, false, false, false, false, false, false, false, false] rfl rfl (any_of HT_.out (by kernel_rfl)) (fun _ _ _ h => h) (Or.inl ⟨by rfl, ?_⟩) ?_ ?_
            rotate_left
            ·intro w'
             go_simp
             with_reducible rfl
            rotate_left
            ·simp only [Act.put, List.setIfInBounds_toArray, List.set_cons_zero, List.set_cons_succ, i64_w, i32_w]
             rfl
            refine pure_ (i := 2) (N := some 43) (v := ?_) (a' := ?_) #[true, false, true, false, false, false, false, false, false, false, false, false, false, false, false] rfl rfl (any_of HT_.out (by kernel_rfl)) (fun _ _ _ h => h) (Or.inl ⟨by rfl, ?_⟩) ?_ ?_
            rotate_left
            ·intro w'
             go_simp
             with_reducible rfl
            rotate_left
            ·simp only [Act.put, List.setIfInBounds_toArray, List.set_cons_zero, List.set_cons_succ, i64_w, i32_w]
             rfl
            refine pure_ (i := 7) (N := some 48) (v := ?_) (a' := ?_) #[true, false, true, false, false, false, false, true, false, false, false, false, false, false, false] rfl rfl (any_of HT_.out (by kernel_rfl)) (fun _ _ _ h => h) (Or.inl ⟨by rfl, ?_⟩) ?_ ?_
            rotate_left
            ·intro w'
             go_simp
             with_reducible rfl
            rotate_left
            ·simp only [Act.put, List.setIfInBounds_toArray, List.set_cons_zero, List.set_cons_succ, i64_w, i32_w]
             rfl
            refine take_ (i := 1) (N := some 42) (v := ?_) (a' := ?_) #[true, true, true, false, false, false, false, true, false, false, false, false, false, false, false] rfl rfl (take_ofW HT_.out HW_.out (by kernel_rfl)) (fun _ _ _ h => h) (Or.inl ⟨by rfl, ?_⟩) hHeld ?_ ?_
            rotate_left
            ·rintro w' ⟨s0, s1, s2, s3, s4, s5, s6, s7, s8, s9, s10, s11, s12⟩
             go_simp
             with_reducible rfl
            rotate_left
            ·simp only [Act.put, List.setIfInBounds_toArray, List.set_cons_zero, List.set_cons_succ, i64_w, i32_w]
             rfl
            refine take_ (i := 3) (N := some 44) (v := ?_) (a' := ?_) #[true, true, true, true, false, false, false, true, false, false, false, false, false, false, false] rfl rfl (take_ofW HT_.out HW_.out (by kernel_rfl)) (fun _ _ _ h => h) (Or.inl ⟨by rfl, ?_⟩) hHeld ?_ ?_
            rotate_left
            ·rintro w' ⟨s0, s1, s2, s3, s4, s5, s6, s7, s8, s9, s10, s11, s12⟩
             go_simp
             with_reducible rfl
            rotate_left
            ·simp only [Act.put, List.setIfInBounds_toArray, List.set_cons_zero, List.set_cons_succ, i64_w, i32_w]
             rfl
            refine pure_ (i := 4) (N := some 45) (v := ?_) (a' := ?_) #[true, true, true, true, true, false, false, true, false, false, false, false, false, false, false] rfl rfl (any_of HT_.out (by kernel_rfl)) (fun _ _ _ h => h) (Or.inl ⟨by rfl, ?_⟩) ?_ ?_
            rotate_left
            ·intro w'
             go_simp
             with_reducible rfl
            rotate_left
            ·simp only [Act.put, List.setIfInBounds_toArray, List.set_cons_zero, List.set_cons_succ, i64_w, i32_w]
             rfl
            refine pure_ (i := 5) (N := some 46) (v := ?_) (a' := ?_) #[true, true, true, true, true, true, false, true, false, false, false, false, false, false, false] rfl rfl (any_of HT_.out (by kernel_rfl)) (fun _ _ _ h => h) (Or.inl ⟨by rfl, ?_⟩) ?_ ?_
            rotate_left
            ·intro w'
             go_simp
             with_reducible rfl
            rotate_left
            ·simp only [Act.put, List.setIfInBounds_toArray, List.set_cons_zero, List.set_cons_succ, i64_w, i32_w]
             rfl
            refine take_ (i := 6) (N := some 47) (v := ?_) (a' := ?_) #[true, true, true, true, true, true, true, true, false, false, false, false, false, false, false] rfl rfl (take_ofW HT_.out HW_.out (by kernel_rfl)) (fun _ _ _ h => h) (Or.inl ⟨by rfl, ?_⟩) hHeld ?_ ?_
            rotate_left
            ·rintro w' ⟨s0, s1, s2, s3, s4, s5, s6, s7, s8, s9, s10, s11, s12⟩
             go_simp
             with_reducible rfl
            rotate_left
            ·simp only [Act.put, List.setIfInBounds_toArray, List.set_cons_zero, List.set_cons_succ, i64_w, i32_w]
             rfl
            refine take_ (i := 8) (N := some 49) (v := ?_) (a' := ?_) #[true, true, true, true, true, true, true, true, true, false, false, false, false, false, false] rfl rfl (take_ofW HT_.out HW_.out (by kernel_rfl)) (fun _ _ _ h => h) (Or.inl ⟨by rfl, ?_⟩) hHeld ?_ ?_
            rotate_left
            ·rintro w' ⟨s0, s1, s2, s3, s4, s5, s6, s7, s8, s9, s10, s11, s12⟩
             go_simp
             with_reducible rfl
            rotate_left
            ·simp only [Act.put, List.setIfInBounds_toArray, List.set_cons_zero, List.set_cons_succ, i64_w, i32_w]
             rfl
            refine pure_ (i := 9) (N := some 50) (v := ?_) (a' := ?_) #[true, true, true, true, true, true, true, true, true, true, false, false, false, false, false] rfl rfl (any_of HT_.out (by kernel_rfl)) (fun _ _ _ h => h) (Or.inl ⟨by rfl, ?_⟩) ?_ ?_
            rotate_left
            ·intro w'
             go_simp
             with_reducible rfl
            rotate_left
            ·simp only [Act.put, List.setIfInBounds_toArray, List.set_cons_zero, List.set_cons_succ, i64_w, i32_w]
             rfl
            refine pure_ (i := 10) (N := some 51) (v := ?_) (a' := ?_) #[true, true, true, true, true, true, true, true, true, true, true, false, false, false, false] rfl rfl (any_of HT_.out (by kernel_rfl)) (fun _ _ _ h => h) (Or.inl ⟨by rfl, ?_⟩) ?_ ?_
            rotate_left
            ·intro w'
             go_simp
             with_reducible rfl
            rotate_left
            ·simp only [Act.put, List.setIfInBounds_toArray, List.set_cons_zero, List.set_cons_succ, i64_w, i32_w]
             rfl
            refine take_ (i := 11) (N := some 52) (v := ?_) (a' := ?_) #[true, true, true, true, true, true, true, true, true, true, true, true, false, false, false] rfl rfl (take_ofW HT_.out HW_.out (by kernel_rfl)) (fun _ _ _ h => h) (Or.inl ⟨by rfl, ?_⟩) hHeld ?_ ?_
            rotate_left
            ·rintro w' ⟨s0, s1, s2, s3, s4, s5, s6, s7, s8, s9, s10, s11, s12⟩
             go_simp
             with_reducible rfl
            rotate_left
            ·simp only [Act.put, List.setIfInBounds_toArray, List.set_cons_zero, List.set_cons_succ, i64_w, i32_w]
             rfl
            refine pure_ (i := 12) (N := some 53) (v := ?_) (a' := ?_) #[true, true, true, true, true, true, true, true, true, true, true, true, true, false, false] rfl rfl (any_of HT_.out (by kernel_rfl)) (fun _ _ _ h => h) (Or.inl ⟨by rfl, ?_⟩) ?_ ?_
            rotate_left
            ·intro w'
             go_simp
             with_reducible rfl
            rotate_left
            ·simp only [Act.put, List.setIfInBounds_toArray, List.set_cons_zero, List.set_cons_succ, i64_w, i32_w]
             rfl
            refine one_ (i := 13) (N := some 6) #[true, true, true, true, true, true, true, true, true, true, true, true, true, true, false] rfl rfl (one_of HT_.out (by kernel_rfl)) (by decide) (fun K hK => ?_)
            refine box_step ?hg (N := 6) ?hd (cs := #[.int .i64 0, .int .i64 0, .string (⟨#[]⟩ : ByteArray)]) (t := 29) ?hr ?_; (case hd => rfl); (case hg => rfl); (case hr => first | (go_simp; done) | (go_simp; rfl))
            intro gb433 hg w67 hbox hb
            have HS7_ := (hb.cell (World.block_lt_of_cell? _ _ (hHeld.2.2.2.2.2.2.2.1))).trans (hHeld.2.2.2.2.2.2.2.1)
            have HS8_ := (hb.cell (World.block_lt_of_cell? _ _ (hHeld.2.2.2.2.2.2.2.2.1))).trans (hHeld.2.2.2.2.2.2.2.2.1)
            have HS9_ := (hb.cell (World.block_lt_of_cell? _ _ (hHeld.2.2.2.2.2.2.2.2.2.1))).trans (hHeld.2.2.2.2.2.2.2.2.2.1)
            have HS10_ := (hb.cell (World.block_lt_of_cell? _ _ (hHeld.2.2.2.2.2.2.2.2.2.2.1))).trans (hHeld.2.2.2.2.2.2.2.2.2.2.1)
            have HS11_ := (hb.cell (World.block_lt_of_cell? _ _ (hHeld.2.2.2.2.2.2.2.2.2.2.2.1))).trans (hHeld.2.2.2.2.2.2.2.2.2.2.2.1)
            have HS12_ := (hb.cell (World.block_lt_of_cell? _ _ (hHeld.2.2.2.2.2.2.2.2.2.2.2.2))).trans (hHeld.2.2.2.2.2.2.2.2.2.2.2.2)
            have n0_ := Aside0.mk (Kd.R_below (by (with_reducible repeat (first | apply Kd.R_alloc | apply Kd.R_drewN | apply Kd.R_drew)); exact HO424.out) hb)
            have n1_ := Aside0.mk (Kd.R_below (by (with_reducible repeat (first | apply Kd.R_alloc | apply Kd.R_drewN | apply Kd.R_drew)); exact HO427.out) hb)
            have n2_ := Aside0.mk (blk_below (g := gb416) (o := .cells #[.int .i64 0, .int .i64 0, .string (⟨#[]⟩ : ByteArray), .string (⟨#[]⟩ : ByteArray), .int .i64 0] 31 (0, 0)) blkA hb)
            have n3_ := Aside0.mk (blk_below (g := gb421) (o := .cells #[.int .i64 t417, .string t418, .string t419, .int .i64 t420] 93 (0, 0)) blkA hb)
            have n4_ := Aside0.mk (blk_below (g := gb430) (o := .cells #[.slice (some ad431) t425.length co61, .string t428, .int .i64 t429] 97 (0, 0)) blkA hb)
            have n5_ := Aside0.mk (below_step bwA hb)
            have n6_ := Aside0.mk (hbox)
            have n7_ := Aside0.mk ((by rw [hg]; exact (below_size bwA) : w.heap.size ≤ gb433))
            have n8_ := Aside0.mk ((by rw [hg]; exact (below_size bwA) : w.heap.size ≤ gb433))
            have n9_ := Aside0.mk ((by rw [hg]; exact Nat.ne_of_lt (blk_lt (g := gb416) (o := .cells #[.int .i64 0, .int .i64 0, .string (⟨#[]⟩ : ByteArray), .string (⟨#[]⟩ : ByteArray), .int .i64 0] 31 (0, 0)) blkA) : gb416 ≠ gb433))
            have n10_ := Aside0.mk ((by rw [hg]; exact Nat.ne_of_gt (blk_lt (g := gb416) (o := .cells #[.int .i64 0, .int .i64 0, .string (⟨#[]⟩ : ByteArray), .string (⟨#[]⟩ : ByteArray), .int .i64 0] 31 (0, 0)) blkA) : gb433 ≠ gb416))
            have n11_ := Aside0.mk ((by rw [hg]; exact Nat.ne_of_lt (blk_lt (g := gb421) (o := .cells #[.int .i64 t417, .string t418, .string t419, .int .i64 t420] 93 (0, 0)) blkA) : gb421 ≠ gb433))
            have n12_ := Aside0.mk ((by rw [hg]; exact Nat.ne_of_gt (blk_lt (g := gb421) (o := .cells #[.int .i64 t417, .string t418, .string t419, .int .i64 t420] 93 (0, 0)) blkA) : gb433 ≠ gb421))
            have n13_ := Aside0.mk ((by rw [hg]; exact Nat.ne_of_lt (blk_lt (g := gb430) (o := .cells #[.slice (some ad431) t425.length co61, .string t428, .int .i64 t429] 97 (0, 0)) blkA) : gb430 ≠ gb433))
            have n14_ := Aside0.mk ((by rw [hg]; exact Nat.ne_of_gt (blk_lt (g := gb430) (o := .cells #[.slice (some ad431) t425.length co61, .string t428, .int .i64 t429] 97 (0, 0)) blkA) : gb433 ≠ gb430))
            clear HO424
            clear HO427
            clear BK416
            clear BK421
            clear BK430
            clear HB
            have HO424 := n0_
            have HO427 := n1_
            have BK416 := n2_
            have BK421 := n3_
            have BK430 := n4_
            have HB := n5_
            have BK433 := n6_
            have GW433 := n7_
            have GE433 := n8_
            have NB416_433 := n9_
            have NB433_416 := n10_
            have NB421_433 := n11_
            have NB433_421 := n12_
            have NB430_433 := n13_
            have NB433_430 := n14_
            clear n0_ n1_ n2_ n3_ n4_ n5_ n6_ n7_ n8_ n9_ n10_ n11_ n12_ n13_ n14_
            clear hb hbox hg
            refine hK.out _ _ ⟨(blk_cell BK421.out 0).trans rfl, (blk_cell BK421.out 1).trans rfl, (blk_cell BK421.out 2).trans rfl, (blk_cell BK421.out 3).trans rfl, (blk_cell BK430.out 0).trans rfl, (blk_cell BK430.out 1).trans rfl, (blk_cell BK430.out 2).trans rfl, HS7_, HS8_, HS9_, HS10_, HS11_, HS12_⟩ (fun hHeld => ?_)
            clear hK K
            refine norm_ (a' := ?_) ?_ ?_
            rotate_left
            ·show Act.put _ (some 6) _ = _
             simp only [Act.put, List.setIfInBounds_toArray, List.set_cons_zero, List.set_cons_succ, i64_w, i32_w]
             rfl
            refine one_ (i := 14) (N := none) #[true, true, true, true, true, true, true, true, true, true, true, true, true, true, true] rfl rfl (one_of HT_.out (by kernel_rfl)) (by decide) (fun K hK => ?_)
            have hs68 : w67.cell? ⟨gb433, 0, none⟩ = some (.int .i64 0) := (blk_cell BK433.out 0).trans rfl
            have hfs68 := blk_frozen BK433.out 0
            have hns68_0 := NB416_433.out
            have hns68_1 := NB421_433.out
            have hns68_2 := NB430_433.out
            have hms68_0 := NB433_416.out
            have hms68_1 := NB433_421.out
            have hms68_2 := NB433_430.out
            have hs69 : w67.cell? ⟨gb433, 1, none⟩ = some (.int .i64 0) := (blk_cell BK433.out 1).trans rfl
            have hfs69 := blk_frozen BK433.out 1
            have hns69_0 := NB416_433.out
            have hns69_1 := NB421_433.out
            have hns69_2 := NB430_433.out
            have hms69_0 := NB433_416.out
            have hms69_1 := NB433_421.out
            have hms69_2 := NB433_430.out
            have hs70 : w67.cell? ⟨gb433, 2, none⟩ = some (.string (⟨#[]⟩ : ByteArray)) := (blk_cell BK433.out 2).trans rfl
            have hfs70 := blk_frozen BK433.out 2
            have hns70_0 := NB416_433.out
            have hns70_1 := NB421_433.out
            have hns70_2 := NB430_433.out
            have hms70_0 := NB433_416.out
            have hms70_1 := NB433_421.out
            have hms70_2 := NB433_430.out
            refine skip_ (w1 := ?_) (by rfl) rfl ?_ ?_
            rotate_left
            ·go_simp
             rfl
            have nz0_ := Aside0.mk (Kd.own_blk (Kd.R_ne HO427.out BK433.out (by decide)))
            refine hK.out _ _ ⟨far3 NB421_433.out hHeld.1, far3 NB421_433.out hHeld.2.1, far3 NB421_433.out hHeld.2.2.1, far3 NB421_433.out hHeld.2.2.2.1, far3 NB430_433.out hHeld.2.2.2.2.1, far3 NB430_433.out hHeld.2.2.2.2.2.1, far3 NB430_433.out hHeld.2.2.2.2.2.2.1, far3 nz0_.out hHeld.2.2.2.2.2.2.2.1, far3 nz0_.out hHeld.2.2.2.2.2.2.2.2.1, far3 nz0_.out hHeld.2.2.2.2.2.2.2.2.2.1, far3 nz0_.out hHeld.2.2.2.2.2.2.2.2.2.2.1, far3 nz0_.out hHeld.2.2.2.2.2.2.2.2.2.2.2.1, far3 nz0_.out hHeld.2.2.2.2.2.2.2.2.2.2.2.2⟩ (fun hHeld => ?_)
            clear hK K
            refine done_ (done_of HT_.out (by kernel_rfl)) ?_
            have hnb71 := NB433_416.out
            have hnc71 := NB416_433.out
            have hnb72 := NB433_421.out
            have hnc72 := NB421_433.out
            have hnb73 := NB433_430.out
            have hnc73 := NB430_433.out
            have hcz74_0 : w67.cell? ⟨gb433, 0, none⟩ = some (.int .i64 0) := (blk_cell BK433.out 0).trans rfl
            have hcz74_1 : w67.cell? ⟨gb433, 1, none⟩ = some (.int .i64 0) := (blk_cell BK433.out 1).trans rfl
            have hcz74_2 : w67.cell? ⟨gb433, 2, none⟩ = some (.string (⟨#[]⟩ : ByteArray)) := (blk_cell BK433.out 2).trans rfl
            have hfz74_0 := blk_frozen BK433.out 0
            have hfz74_1 := blk_frozen BK433.out 1
            have hfz74_2 := blk_frozen BK433.out 2
            try go_wp2_with (first | ((with_reducible refine gate_callee (f := 29) rfl ?_); refine goesA (some 55) Tryd.func29 #[.agg #[.int .i64 t417, .int .i64 ((rd_T99 t425 0).f1), .string ((rd_T99 t425 0).f2)]] ?_; (with_reducible refine (caduceusref03_Check.calls kj14 t417 ((rd_T99 t425 0).f1) ((rd_T99 t425 0).f2) false _ A27.out).mono ?_); rintro e w75 ⟨rfl, hb⟩; refine ⟨_, rfl, ?_⟩; have n0_ := Aside0.mk (Kd.R_below (by (with_reducible repeat (first | apply Kd.R_alloc | apply Kd.R_drewN | apply Kd.R_drew)); exact (Kd.R_mono (Kd.R_far (p := ⟨gb433, 2, none⟩) (Kd.R_far (p := ⟨gb433, 1, none⟩) (Kd.R_far (p := ⟨gb433, 0, none⟩) (Kd.R_types HO424.out BK433.out (by decide)) (fun _ hk => hk.2) (.int .i64 t417)) (fun _ hk => hk.2) (.int .i64 ((rd_T99 t425 0).f1))) (fun _ hk => hk.2) (.string ((rd_T99 t425 0).f2))) (fun _ h_ => h_.1))) hb); have n1_ := Aside0.mk (Kd.R_below (by (with_reducible repeat (first | apply Kd.R_alloc | apply Kd.R_drewN | apply Kd.R_drew)); exact (Kd.R_mono (Kd.R_far (p := ⟨gb433, 2, none⟩) (Kd.R_far (p := ⟨gb433, 1, none⟩) (Kd.R_far (p := ⟨gb433, 0, none⟩) (Kd.R_types HO427.out BK433.out (by decide)) (fun _ hk => hk.2) (.int .i64 t417)) (fun _ hk => hk.2) (.int .i64 ((rd_T99 t425 0).f1))) (fun _ hk => hk.2) (.string ((rd_T99 t425 0).f2))) (fun _ h_ => h_.1))) hb); have n2_ := Aside0.mk (blk_below (g := gb416) (o := .cells #[.int .i64 0, .int .i64 0, .string (⟨#[]⟩ : ByteArray), .string (⟨#[]⟩ : ByteArray), .int .i64 0] 31 (0, 0)) (by (with_reducible repeat (first | refine blk_drewN ?_ _ | refine blk_drew ?_ | refine blk_alloc ?_ _)); refine blk_far ?_ NB416_433.out _; (with_reducible repeat (first | refine blk_drewN ?_ _ | refine blk_drew ?_ | refine blk_alloc ?_ _)); refine blk_far ?_ NB416_433.out _; (with_reducible repeat (first | refine blk_drewN ?_ _ | refine blk_drew ?_ | refine blk_alloc ?_ _)); refine blk_far ?_ NB416_433.out _; (with_reducible repeat (first | refine blk_drewN ?_ _ | refine blk_drew ?_ | refine blk_alloc ?_ _)); exact BK416.out) hb); have n3_ := Aside0.mk (blk_below (g := gb421) (o := .cells #[.int .i64 t417, .string t418, .string t419, .int .i64 t420] 93 (0, 0)) (by (with_reducible repeat (first | refine blk_drewN ?_ _ | refine blk_drew ?_ | refine blk_alloc ?_ _)); refine blk_far ?_ NB421_433.out _; (with_reducible repeat (first | refine blk_drewN ?_ _ | refine blk_drew ?_ | refine blk_alloc ?_ _)); refine blk_far ?_ NB421_433.out _; (with_reducible repeat (first | refine blk_drewN ?_ _ | refine blk_drew ?_ | refine blk_alloc ?_ _)); refine blk_far ?_ NB421_433.out _; (with_reducible repeat (first | refine blk_drewN ?_ _ | refine blk_drew ?_ | refine blk_alloc ?_ _)); exact BK421.out) hb); have n4_ := Aside0.mk (blk_below (g := gb430) (o := .cells #[.slice (some ad431) t425.length co61, .string t428, .int .i64 t429] 97 (0, 0)) (by (with_reducible repeat (first | refine blk_drewN ?_ _ | refine blk_drew ?_ | refine blk_alloc ?_ _)); refine blk_far ?_ NB430_433.out _; (with_reducible repeat (first | refine blk_drewN ?_ _ | refine blk_drew ?_ | refine blk_alloc ?_ _)); refine blk_far ?_ NB430_433.out _; (with_reducible repeat (first | refine blk_drewN ?_ _ | refine blk_drew ?_ | refine blk_alloc ?_ _)); refine blk_far ?_ NB430_433.out _; (with_reducible repeat (first | refine blk_drewN ?_ _ | refine blk_drew ?_ | refine blk_alloc ?_ _)); exact BK430.out) hb); have n5_ := Aside0.mk (blk_below (g := gb433) (o := .cells #[.int .i64 t417, .int .i64 ((rd_T99 t425 0).f1), .string ((rd_T99 t425 0).f2)] 29 (0, 0)) (by (with_reducible repeat (first | refine blk_drewN ?_ _ | refine blk_drew ?_ | refine blk_alloc ?_ _)); refine blk_put (cs := #[.int .i64 t417, .int .i64 ((rd_T99 t425 0).f1), .string (⟨#[]⟩ : ByteArray)]) ?_ 2 _ rfl; (with_reducible repeat (first | refine blk_drewN ?_ _ | refine blk_drew ?_ | refine blk_alloc ?_ _)); refine blk_put (cs := #[.int .i64 t417, .int .i64 0, .string (⟨#[]⟩ : ByteArray)]) ?_ 1 _ rfl; (with_reducible repeat (first | refine blk_drewN ?_ _ | refine blk_drew ?_ | refine blk_alloc ?_ _)); refine blk_put (cs := #[.int .i64 0, .int .i64 0, .string (⟨#[]⟩ : ByteArray)]) ?_ 0 _ rfl; (with_reducible repeat (first | refine blk_drewN ?_ _ | refine blk_drew ?_ | refine blk_alloc ?_ _)); exact BK433.out) hb); have n6_ := Aside0.mk (below_step bwA hb); clear HO424; clear HO427; clear BK416; clear BK421; clear BK430; clear BK433; clear HB; have HO424 := n0_; have HO427 := n1_; have BK416 := n2_; have BK421 := n3_; have BK430 := n4_; have BK433 := n5_; have HB := n6_; clear n0_ n1_ n2_ n3_ n4_ n5_ n6_; (try clear hb); (try clear hb2); (try clear hk); (try clear hi); have hcz76_0 : w75.cell? ⟨gb416, 0, none⟩ = some (.int .i64 0) := (blk_cell BK416.out 0).trans rfl; have hcz76_1 : w75.cell? ⟨gb416, 1, none⟩ = some (.int .i64 0) := (blk_cell BK416.out 1).trans rfl; have hcz76_2 : w75.cell? ⟨gb416, 2, none⟩ = some (.string (⟨#[]⟩ : ByteArray)) := (blk_cell BK416.out 2).trans rfl; have hcz76_3 : w75.cell? ⟨gb416, 3, none⟩ = some (.string (⟨#[]⟩ : ByteArray)) := (blk_cell BK416.out 3).trans rfl; have hcz76_4 : w75.cell? ⟨gb416, 4, none⟩ = some (.int .i64 0) := (blk_cell BK416.out 4).trans rfl; have hfz76_0 := blk_frozen BK416.out 0; have hfz76_1 := blk_frozen BK416.out 1; have hfz76_2 := blk_frozen BK416.out 2; have hfz76_3 := blk_frozen BK416.out 3; have hfz76_4 := blk_frozen BK416.out 4))
            refine bodyPost_ret (results_cell_row rfl _ _ gb416 31 #[.int .i64 0, .int .i64 0, .string (⟨#[]⟩ : ByteArray), .string (⟨#[]⟩ : ByteArray), .int .i64 3] (0, 0) _ rfl (by (with_reducible repeat (first | refine blk_drewN ?_ _ | refine blk_drew ?_ | refine blk_alloc ?_ _)); refine blk_put (cs := #[.int .i64 0, .int .i64 0, .string (⟨#[]⟩ : ByteArray), .string (⟨#[]⟩ : ByteArray), .int .i64 0]) ?_ 4 _ rfl; (with_reducible repeat (first | refine blk_drewN ?_ _ | refine blk_drew ?_ | refine blk_alloc ?_ _)); refine blk_put (cs := #[.int .i64 0, .int .i64 0, .string (⟨#[]⟩ : ByteArray), .string (⟨#[]⟩ : ByteArray), .int .i64 0]) ?_ 3 _ rfl; (with_reducible repeat (first | refine blk_drewN ?_ _ | refine blk_drew ?_ | refine blk_alloc ?_ _)); refine blk_put (cs := #[.int .i64 0, .int .i64 0, .string (⟨#[]⟩ : ByteArray), .string (⟨#[]⟩ : ByteArray), .int .i64 0]) ?_ 2 _ rfl; (with_reducible repeat (first | refine blk_drewN ?_ _ | refine blk_drew ?_ | refine blk_alloc ?_ _)); refine blk_put (cs := #[.int .i64 0, .int .i64 0, .string (⟨#[]⟩ : ByteArray), .string (⟨#[]⟩ : ByteArray), .int .i64 0]) ?_ 1 _ rfl; (with_reducible repeat (first | refine blk_drewN ?_ _ | refine blk_drew ?_ | refine blk_alloc ?_ _)); refine blk_put (cs := #[.int .i64 0, .int .i64 0, .string (⟨#[]⟩ : ByteArray), .string (⟨#[]⟩ : ByteArray), .int .i64 0]) ?_ 0 _ rfl; (with_reducible repeat (first | refine blk_drewN ?_ _ | refine blk_drew ?_ | refine blk_alloc ?_ _)); exact BK416.out) Tryd.underlying31 rfl (by kernel_rfl)) rfl ?_
            exact ⟨by first | rfl | (simp [errW_none, errW_some] <;> rfl) | (simp [*, errW_none, errW_some] <;> rfl), by repeat (first | (with_reducible first | exact HB.out | apply below_alloc | apply pw_below_drewN | apply below_drew1 | refine below_set ?_ GE416.out | refine below_set ?_ GE421.out | refine below_set ?_ GE430.out | refine below_set ?_ GE433.out) | exact HB.out)⟩
          ·rw [if_neg c26] at H
           exact absurd H (by simp)
         ·rw [if_neg c25] at H
          have c25b0 : (t429 == 0) = false := beq_eq_false_iff_ne.mpr c25
          have c25b1 : (t429 != 0) = true := bne_iff_ne.mpr c25
          simp only [Option.some.injEq, Prod.mk.injEq] at H
          obtain ⟨rfl, rfl, rfl, rfl, rfl⟩ := H
          have hnb77 := NB421_416.out
          have hnc77 := NB416_421.out
          have hcz78_0 : wc.cell? ⟨gb421, 0, none⟩ = some (.int .i64 t417) := (blk_cell BK421.out 0).trans rfl
          have hcz78_1 : wc.cell? ⟨gb421, 1, none⟩ = some (.string t418) := (blk_cell BK421.out 1).trans rfl
          have hcz78_2 : wc.cell? ⟨gb421, 2, none⟩ = some (.string t419) := (blk_cell BK421.out 2).trans rfl
          have hcz78_3 : wc.cell? ⟨gb421, 3, none⟩ = some (.int .i64 t420) := (blk_cell BK421.out 3).trans rfl
          have hfz78_0 := blk_frozen BK421.out 0
          have hfz78_1 := blk_frozen BK421.out 1
          have hfz78_2 := blk_frozen BK421.out 2
          have hfz78_3 := blk_frozen BK421.out 3
          go_wp2_with (first | ((with_reducible refine gate_dst (N := 33) rfl ?_); refine Kd.R_lit (Kd.int .i64) _ 3 ?hg (N := 33) ?hd (xs := ([x4_10] : List Int)) (inner := [.int .i64 x4_10]) (ok := fun _ => True) (okp := fun _ => True) ?hr ?hp (fun _ hk => hk) trivial (Below.refl _ _) (Nat.le_refl _) (by simp) ?_; (case hd => rfl); (case hg => rfl); (case hr => first | (go_simp; done) | (go_simp; rfl)); (case hp => exact (Reps.one (show Kd.M (Kd.int .i64) _ _ _ x4_10 [.int .i64 x4_10] from rfl) (Reps.none _ _))); intro v423 w79 ho80 hb hg_ hnew_; clear hg_ hnew_; (first | rw [← Ny422.out] at ho80 | (simp only [Int.reduceToNat] at ho80; rw [← Ny422.out] at ho80)); have n0_ := Aside0.mk (Kd.R_lower ho80 (below_size bwA)); have n1_ := Aside0.mk (blk_below (g := gb416) (o := .cells #[.int .i64 0, .int .i64 0, .string (⟨#[]⟩ : ByteArray), .string (⟨#[]⟩ : ByteArray), .int .i64 0] 31 (0, 0)) blkA hb); have n2_ := Aside0.mk (blk_below (g := gb421) (o := .cells #[.int .i64 t417, .string t418, .string t419, .int .i64 t420] 93 (0, 0)) blkA hb); have n3_ := Aside0.mk (below_step bwA hb); clear BK416; clear BK421; clear HB; have HO424 := n0_; have BK416 := n1_; have BK421 := n2_; have HB := n3_; clear n0_ n1_ n2_ n3_; clear hb ho80; obtain ⟨Ao81, co81, eo81⟩ := Kd.R_slice HO424.out; subst eo81) | ((with_reducible refine gate_callee (f := 65) rfl ?_); refine goesA (some 34) Tryd.func65 #[.string t419, .slice Ao81 y422.length co81] ?_; (with_reducible refine (caduceusref01_Take.calls kj14 t419 _ _ y422 t425 t428 t429 _ ?side1 ?side2 A24.out).mono ?_); (case side1 => repeat (first | exact (Kd.R_reads' HO424.out).2.2 | (with_reducible refine Kd.C_alloc ?_ _) | (with_reducible refine Kd.C_drewN ?_ _) | (with_reducible refine Kd.C_drew ?_))); (case side2 => exact (Kd.R_reads' HO424.out).2.1); rintro e w82 ⟨v426, rfl, ho0, hb⟩; refine ⟨_, rfl, ?_⟩; have n0_ := Aside0.mk (Kd.R_below (by (with_reducible repeat (first | apply Kd.R_alloc | apply Kd.R_drewN | apply Kd.R_drew)); exact HO424.out) hb); have n1_ := Aside0.mk (Kd.R_lower ho0 (below_size bwA)); have n2_ := Aside0.mk (blk_below (g := gb416) (o := .cells #[.int .i64 0, .int .i64 0, .string (⟨#[]⟩ : ByteArray), .string (⟨#[]⟩ : ByteArray), .int .i64 0] 31 (0, 0)) blkA hb); have n3_ := Aside0.mk (blk_below (g := gb421) (o := .cells #[.int .i64 t417, .string t418, .string t419, .int .i64 t420] 93 (0, 0)) blkA hb); have n4_ := Aside0.mk (below_step bwA hb); clear HO424; clear BK416; clear BK421; clear HB; have HO424 := n0_; have HO427 := n1_; have BK416 := n2_; have BK421 := n3_; have HB := n4_; clear n0_ n1_ n2_ n3_ n4_; (try clear hb); (try clear hb2); (try clear hk); (try clear hi); (try clear ho0)) | ((with_reducible refine gate_dst (N := 5) rfl ?_); refine box_event ?hg (N := 5) ?hd (cs := #[.slice none 0 0, .string (⟨#[]⟩ : ByteArray), .int .i64 0]) (t := 97) ?hr ?_; (case hd => rfl); (case hg => rfl); (case hr => first | (go_simp; done) | (go_simp; rfl)); intro gb430 hg w83 hbox hb; have n0_ := Aside0.mk (Kd.R_below (by (with_reducible repeat (first | apply Kd.R_alloc | apply Kd.R_drewN | apply Kd.R_drew)); exact HO424.out) hb); have n1_ := Aside0.mk (Kd.R_below (by (with_reducible repeat (first | apply Kd.R_alloc | apply Kd.R_drewN | apply Kd.R_drew)); exact HO427.out) hb); have n2_ := Aside0.mk (blk_below (g := gb416) (o := .cells #[.int .i64 0, .int .i64 0, .string (⟨#[]⟩ : ByteArray), .string (⟨#[]⟩ : ByteArray), .int .i64 0] 31 (0, 0)) blkA hb); have n3_ := Aside0.mk (blk_below (g := gb421) (o := .cells #[.int .i64 t417, .string t418, .string t419, .int .i64 t420] 93 (0, 0)) blkA hb); have n4_ := Aside0.mk (below_step bwA hb); have n5_ := Aside0.mk (hbox); have n6_ := Aside0.mk ((by rw [hg]; exact (below_size bwA) : w.heap.size ≤ gb430)); have n7_ := Aside0.mk ((by rw [hg]; exact (below_size bwA) : w.heap.size ≤ gb430)); have n8_ := Aside0.mk ((by rw [hg]; exact Nat.ne_of_lt (blk_lt (g := gb416) (o := .cells #[.int .i64 0, .int .i64 0, .string (⟨#[]⟩ : ByteArray), .string (⟨#[]⟩ : ByteArray), .int .i64 0] 31 (0, 0)) blkA) : gb416 ≠ gb430)); have n9_ := Aside0.mk ((by rw [hg]; exact Nat.ne_of_gt (blk_lt (g := gb416) (o := .cells #[.int .i64 0, .int .i64 0, .string (⟨#[]⟩ : ByteArray), .string (⟨#[]⟩ : ByteArray), .int .i64 0] 31 (0, 0)) blkA) : gb430 ≠ gb416)); have n10_ := Aside0.mk ((by rw [hg]; exact Nat.ne_of_lt (blk_lt (g := gb421) (o := .cells #[.int .i64 t417, .string t418, .string t419, .int .i64 t420] 93 (0, 0)) blkA) : gb421 ≠ gb430)); have n11_ := Aside0.mk ((by rw [hg]; exact Nat.ne_of_gt (blk_lt (g := gb421) (o := .cells #[.int .i64 t417, .string t418, .string t419, .int .i64 t420] 93 (0, 0)) blkA) : gb430 ≠ gb421)); clear HO424; clear HO427; clear BK416; clear BK421; clear HB; have HO424 := n0_; have HO427 := n1_; have BK416 := n2_; have BK421 := n3_; have HB := n4_; have BK430 := n5_; have GW430 := n6_; have GE430 := n7_; have NB416_430 := n8_; have NB430_416 := n9_; have NB421_430 := n10_; have NB430_421 := n11_; clear n0_ n1_ n2_ n3_ n4_ n5_ n6_ n7_ n8_ n9_ n10_ n11_; clear hb hbox hg; obtain ⟨Ao84, co84, eo84⟩ := Kd.R_slice HO427.out; subst eo84; have hnb85 := NB430_416.out; have hnc85 := NB416_430.out; have hnb86 := NB430_421.out; have hnc86 := NB421_430.out; have hcz87_0 : w83.cell? ⟨gb430, 0, none⟩ = some (.slice none 0 0) := (blk_cell BK430.out 0).trans rfl; have hcz87_1 : w83.cell? ⟨gb430, 1, none⟩ = some (.string (⟨#[]⟩ : ByteArray)) := (blk_cell BK430.out 1).trans rfl; have hcz87_2 : w83.cell? ⟨gb430, 2, none⟩ = some (.int .i64 0) := (blk_cell BK430.out 2).trans rfl; have hfz87_0 := blk_frozen BK430.out 0; have hfz87_1 := blk_frozen BK430.out 1; have hfz87_2 := blk_frozen BK430.out 2; have hcz88_0 : w83.cell? ⟨gb416, 0, none⟩ = some (.int .i64 0) := (blk_cell BK416.out 0).trans rfl; have hcz88_1 : w83.cell? ⟨gb416, 1, none⟩ = some (.int .i64 0) := (blk_cell BK416.out 1).trans rfl; have hcz88_2 : w83.cell? ⟨gb416, 2, none⟩ = some (.string (⟨#[]⟩ : ByteArray)) := (blk_cell BK416.out 2).trans rfl; have hcz88_3 : w83.cell? ⟨gb416, 3, none⟩ = some (.string (⟨#[]⟩ : ByteArray)) := (blk_cell BK416.out 3).trans rfl; have hcz88_4 : w83.cell? ⟨gb416, 4, none⟩ = some (.int .i64 0) := (blk_cell BK416.out 4).trans rfl; have hfz88_0 := blk_frozen BK416.out 0; have hfz88_1 := blk_frozen BK416.out 1; have hfz88_2 := blk_frozen BK416.out 2; have hfz88_3 := blk_frozen BK416.out 3; have hfz88_4 := blk_frozen BK416.out 4))
          refine bodyPost_ret (results_cell_row rfl _ _ gb416 31 #[.int .i64 0, .int .i64 0, .string (⟨#[]⟩ : ByteArray), .string (⟨#[]⟩ : ByteArray), .int .i64 t429] (0, 0) _ rfl (by (with_reducible repeat (first | refine blk_drewN ?_ _ | refine blk_drew ?_ | refine blk_alloc ?_ _)); refine blk_put (cs := #[.int .i64 0, .int .i64 0, .string (⟨#[]⟩ : ByteArray), .string (⟨#[]⟩ : ByteArray), .int .i64 0]) ?_ 4 _ rfl; (with_reducible repeat (first | refine blk_drewN ?_ _ | refine blk_drew ?_ | refine blk_alloc ?_ _)); refine blk_put (cs := #[.int .i64 0, .int .i64 0, .string (⟨#[]⟩ : ByteArray), .string (⟨#[]⟩ : ByteArray), .int .i64 0]) ?_ 3 _ rfl; (with_reducible repeat (first | refine blk_drewN ?_ _ | refine blk_drew ?_ | refine blk_alloc ?_ _)); refine blk_put (cs := #[.int .i64 0, .int .i64 0, .string (⟨#[]⟩ : ByteArray), .string (⟨#[]⟩ : ByteArray), .int .i64 0]) ?_ 2 _ rfl; (with_reducible repeat (first | refine blk_drewN ?_ _ | refine blk_drew ?_ | refine blk_alloc ?_ _)); refine blk_put (cs := #[.int .i64 0, .int .i64 0, .string (⟨#[]⟩ : ByteArray), .string (⟨#[]⟩ : ByteArray), .int .i64 0]) ?_ 1 _ rfl; (with_reducible repeat (first | refine blk_drewN ?_ _ | refine blk_drew ?_ | refine blk_alloc ?_ _)); refine blk_put (cs := #[.int .i64 0, .int .i64 0, .string (⟨#[]⟩ : ByteArray), .string (⟨#[]⟩ : ByteArray), .int .i64 0]) ?_ 0 _ rfl; (with_reducible repeat (first | refine blk_drewN ?_ _ | refine blk_drew ?_ | refine blk_alloc ?_ _)); refine blk_far ?_ NB416_430.out _; (with_reducible repeat (first | refine blk_drewN ?_ _ | refine blk_drew ?_ | refine blk_alloc ?_ _)); refine blk_far ?_ NB416_430.out _; (with_reducible repeat (first | refine blk_drewN ?_ _ | refine blk_drew ?_ | refine blk_alloc ?_ _)); refine blk_far ?_ NB416_430.out _; (with_reducible repeat (first | refine blk_drewN ?_ _ | refine blk_drew ?_ | refine blk_alloc ?_ _)); exact BK416.out) Tryd.underlying31 rfl (by kernel_rfl)) rfl ?_
          exact ⟨by first | rfl | (simp [errW_none, errW_some] <;> rfl) | (simp [*, errW_none, errW_some] <;> rfl), by repeat (first | (with_reducible first | exact HB.out | apply below_alloc | apply pw_below_drewN | apply below_drew1 | refine below_set ?_ GE416.out | refine below_set ?_ GE421.out | refine below_set ?_ GE430.out) | exact HB.out)⟩
 ·rw [if_neg c3] at H
  have c3b0 : (t420 == 0) = false := beq_eq_false_iff_ne.mpr c3
  have c3b1 : (t420 != 0) = true := bne_iff_ne.mpr c3
  simp only [Option.some.injEq, Prod.mk.injEq] at H
  obtain ⟨rfl, rfl, rfl, rfl, rfl⟩ := H
  go_enter Tryd.func36, Tryd.ntmps36
  go_wp2_with (first | ((with_reducible refine gate_dst (N := 2) rfl ?_); refine box_event ?hg (N := 2) ?hd (cs := #[.int .i64 0, .int .i64 0, .string (⟨#[]⟩ : ByteArray), .string (⟨#[]⟩ : ByteArray), .int .i64 0]) (t := 31) ?hr ?_; (case hd => rfl); (case hg => rfl); (case hr => first | (go_simp; done) | (go_simp; rfl)); intro gb416 hg w89 hbox hb; have n0_ := Aside0.mk (below_step bwA hb); have n1_ := Aside0.mk (hbox); have n2_ := Aside0.mk ((by rw [hg]; exact (below_size bwA) : w.heap.size ≤ gb416)); have n3_ := Aside0.mk ((by rw [hg]; exact (below_size bwA) : w.heap.size ≤ gb416)); clear HB; have HB := n0_; have BK416 := n1_; have GW416 := n2_; have GE416 := n3_; clear n0_ n1_ n2_ n3_; clear hb hbox hg) | ((with_reducible refine gate_callee (f := 64) rfl ?_); refine goesA (some 8) Tryd.func64 #[.string a0] ?_; (with_reducible refine (caduceusref01_Get.calls k a0 t417 t418 t419 t420 _ A2.out).mono ?_); rintro e w90 ⟨rfl, hb⟩; refine ⟨_, rfl, ?_⟩; have n0_ := Aside0.mk (blk_below (g := gb416) (o := .cells #[.int .i64 0, .int .i64 0, .string (⟨#[]⟩ : ByteArray), .string (⟨#[]⟩ : ByteArray), .int .i64 0] 31 (0, 0)) blkA hb); have n1_ := Aside0.mk (below_step bwA hb); clear BK416; clear HB; have BK416 := n0_; have HB := n1_; clear n0_ n1_; (try clear hb); (try clear hb2); (try clear hk); (try clear hi)) | ((with_reducible refine gate_dst (N := 3) rfl ?_); refine box_event ?hg (N := 3) ?hd (cs := #[.int .i64 0, .string (⟨#[]⟩ : ByteArray), .string (⟨#[]⟩ : ByteArray), .int .i64 0]) (t := 93) ?hr ?_; (case hd => rfl); (case hg => rfl); (case hr => first | (go_simp; done) | (go_simp; rfl)); intro gb421 hg w91 hbox hb; have n0_ := Aside0.mk (blk_below (g := gb416) (o := .cells #[.int .i64 0, .int .i64 0, .string (⟨#[]⟩ : ByteArray), .string (⟨#[]⟩ : ByteArray), .int .i64 0] 31 (0, 0)) blkA hb); have n1_ := Aside0.mk (below_step bwA hb); have n2_ := Aside0.mk (hbox); have n3_ := Aside0.mk ((by rw [hg]; exact (below_size bwA) : w.heap.size ≤ gb421)); have n4_ := Aside0.mk ((by rw [hg]; exact (below_size bwA) : w.heap.size ≤ gb421)); have n5_ := Aside0.mk ((by rw [hg]; exact Nat.ne_of_lt (blk_lt (g := gb416) (o := .cells #[.int .i64 0, .int .i64 0, .string (⟨#[]⟩ : ByteArray), .string (⟨#[]⟩ : ByteArray), .int .i64 0] 31 (0, 0)) blkA) : gb416 ≠ gb421)); have n6_ := Aside0.mk ((by rw [hg]; exact Nat.ne_of_gt (blk_lt (g := gb416) (o := .cells #[.int .i64 0, .int .i64 0, .string (⟨#[]⟩ : ByteArray), .string (⟨#[]⟩ : ByteArray), .int .i64 0] 31 (0, 0)) blkA) : gb421 ≠ gb416)); clear BK416; clear HB; have BK416 := n0_; have HB := n1_; have BK421 := n2_; have GW421 := n3_; have GE421 := n4_; have NB416_421 := n5_; have NB421_416 := n6_; clear n0_ n1_ n2_ n3_ n4_ n5_ n6_; clear hb hbox hg; have hnb92 := NB421_416.out; have hnc92 := NB416_421.out; have hcz93_0 : w91.cell? ⟨gb421, 0, none⟩ = some (.int .i64 0) := (blk_cell BK421.out 0).trans rfl; have hcz93_1 : w91.cell? ⟨gb421, 1, none⟩ = some (.string (⟨#[]⟩ : ByteArray)) := (blk_cell BK421.out 1).trans rfl; have hcz93_2 : w91.cell? ⟨gb421, 2, none⟩ = some (.string (⟨#[]⟩ : ByteArray)) := (blk_cell BK421.out 2).trans rfl; have hcz93_3 : w91.cell? ⟨gb421, 3, none⟩ = some (.int .i64 0) := (blk_cell BK421.out 3).trans rfl; have hfz93_0 := blk_frozen BK421.out 0; have hfz93_1 := blk_frozen BK421.out 1; have hfz93_2 := blk_frozen BK421.out 2; have hfz93_3 := blk_frozen BK421.out 3; have hcz94_0 : w91.cell? ⟨gb416, 0, none⟩ = some (.int .i64 0) := (blk_cell BK416.out 0).trans rfl; have hcz94_1 : w91.cell? ⟨gb416, 1, none⟩ = some (.int .i64 0) := (blk_cell BK416.out 1).trans rfl; have hcz94_2 : w91.cell? ⟨gb416, 2, none⟩ = some (.string (⟨#[]⟩ : ByteArray)) := (blk_cell BK416.out 2).trans rfl; have hcz94_3 : w91.cell? ⟨gb416, 3, none⟩ = some (.string (⟨#[]⟩ : ByteArray)) := (blk_cell BK416.out 3).trans rfl; have hcz94_4 : w91.cell? ⟨gb416, 4, none⟩ = some (.int .i64 0) := (blk_cell BK416.out 4).trans rfl; have hfz94_0 := blk_frozen BK416.out 0; have hfz94_1 := blk_frozen BK416.out 1; have hfz94_2 := blk_frozen BK416.out 2; have hfz94_3 := blk_frozen BK416.out 3; have hfz94_4 := blk_frozen BK416.out 4))
  refine bodyPost_ret (results_cell_row rfl _ _ gb416 31 #[.int .i64 0, .int .i64 0, .string (⟨#[]⟩ : ByteArray), .string (⟨#[]⟩ : ByteArray), .int .i64 t420] (0, 0) _ rfl (by (with_reducible repeat (first | refine blk_drewN ?_ _ | refine blk_drew ?_ | refine blk_alloc ?_ _)); refine blk_put (cs := #[.int .i64 0, .int .i64 0, .string (⟨#[]⟩ : ByteArray), .string (⟨#[]⟩ : ByteArray), .int .i64 0]) ?_ 4 _ rfl; (with_reducible repeat (first | refine blk_drewN ?_ _ | refine blk_drew ?_ | refine blk_alloc ?_ _)); refine blk_put (cs := #[.int .i64 0, .int .i64 0, .string (⟨#[]⟩ : ByteArray), .string (⟨#[]⟩ : ByteArray), .int .i64 0]) ?_ 3 _ rfl; (with_reducible repeat (first | refine blk_drewN ?_ _ | refine blk_drew ?_ | refine blk_alloc ?_ _)); refine blk_put (cs := #[.int .i64 0, .int .i64 0, .string (⟨#[]⟩ : ByteArray), .string (⟨#[]⟩ : ByteArray), .int .i64 0]) ?_ 2 _ rfl; (with_reducible repeat (first | refine blk_drewN ?_ _ | refine blk_drew ?_ | refine blk_alloc ?_ _)); refine blk_put (cs := #[.int .i64 0, .int .i64 0, .string (⟨#[]⟩ : ByteArray), .string (⟨#[]⟩ : ByteArray), .int .i64 0]) ?_ 1 _ rfl; (with_reducible repeat (first | refine blk_drewN ?_ _ | refine blk_drew ?_ | refine blk_alloc ?_ _)); refine blk_put (cs := #[.int .i64 0, .int .i64 0, .string (⟨#[]⟩ : ByteArray), .string (⟨#[]⟩ : ByteArray), .int .i64 0]) ?_ 0 _ rfl; (with_reducible repeat (first | refine blk_drewN ?_ _ | refine blk_drew ?_ | refine blk_alloc ?_ _)); refine blk_far ?_ NB416_421.out _; (with_reducible repeat (first | refine blk_drewN ?_ _ | refine blk_drew ?_ | refine blk_alloc ?_ _)); refine blk_far ?_ NB416_421.out _; (with_reducible repeat (first | refine blk_drewN ?_ _ | refine blk_drew ?_ | refine blk_alloc ?_ _)); refine blk_far ?_ NB416_421.out _; (with_reducible repeat (first | refine blk_drewN ?_ _ | refine blk_drew ?_ | refine blk_alloc ?_ _)); refine blk_far ?_ NB416_421.out _; (with_reducible repeat (first | refine blk_drewN ?_ _ | refine blk_drew ?_ | refine blk_alloc ?_ _)); exact BK416.out) Tryd.underlying31 rfl (by kernel_rfl)) rfl ?_
  exact ⟨by first | rfl | (simp [errW_none, errW_some] <;> rfl) | (simp [*, errW_none, errW_some] <;> rfl), by repeat (first | (with_reducible first | exact HB.out | apply below_alloc | apply pw_below_drewN | apply below_drew1 | refine below_set ?_ GE416.out | refine below_set ?_ GE421.out) | exact HB.out)⟩

end Go.Proofs.YtoajlmmkkcelgaaDoor.A
