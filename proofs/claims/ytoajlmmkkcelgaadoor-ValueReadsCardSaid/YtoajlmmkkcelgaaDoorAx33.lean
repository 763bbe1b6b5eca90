-- By drv.py, the session's own driver round the kit's print: the machine's side of the laws, function by function. Not trusted: Lean checks it.
import Derived.Test.YtoajlmmkkcelgaaDoorAx0
import Derived.Test.YtoajlmmkkcelgaaDoorAx1
import Derived.Test.YtoajlmmkkcelgaaDoorAx11
import Derived.Test.YtoajlmmkkcelgaaDoorAx18
import Derived.Test.YtoajlmmkkcelgaaDoorAx21
import Derived.Test.YtoajlmmkkcelgaaDoorAx32
namespace Go.Proofs.YtoajlmmkkcelgaaDoor.A
open Go.RowKit Go.Proofs.YtoajlmmkkcelgaaDoorW.PrintWords Go.Proofs.YtoajlmmkkcelgaaDoorW.PrintLast Go.Proofs.YtoajlmmkkcelgaaDoorW.PrintMore
attribute [local go_sem] max2_int min2_int max_two min_two max_three min_three max_four min_four   -- for this text's walks alone
set_option linter.unusedVariables false
set_option linter.unusedSimpArgs false

attribute [local go_sem high] eqA29
/-! ### caduceuslaw03_ValueReads: function 11 -/
def caduceuslaw03_ValueReads.f (k : Nat) (a0 : ByteArray) : Option (Bool) := (caduceuslaw03_few.f a0).bind fun t435 => (if t435 = true then ((value_Read.f k a0).bind fun bt437 => ((caduceusref03_Read.f k a0).bind fun bt443 => ((caduceuslaw03_awake.f k).bind fun t449 => (if t449 = true then ((caduceuslaw03_Ref.f bt437.1 bt437.2.1 bt437.2.2.1).bind fun bt450 => (if (bt450.1 == bt443.1 && (bt450.2.1 == bt443.2.1 && (bt450.2.2.toList == bt443.2.2.1.toList))) = true then (if bt437.2.2.2.1.toList = bt443.2.2.2.1.toList then (some (bt437.2.2.2.2 == bt443.2.2.2.2)) else (none)) else (none))) else (none))))) else ((caduceuslaw03_awake.f k).bind fun t436 => (some t436)))
theorem caduceuslaw03_ValueReads.mono : ∀ a0 k, LeO (caduceuslaw03_ValueReads.f k a0) (caduceuslaw03_ValueReads.f (k + 1) a0) := by
 intro a0 k
 unfold caduceuslaw03_ValueReads.f
 repeat' first
   | (with_reducible exact caduceuslaw03_awake.mono _)
   | (with_reducible exact caduceusref03_Read.mono _ _)
   | (with_reducible exact value_Read.mono _ _)
   | (with_reducible exact LeO.refl _)
   | (with_reducible exact LeO.none _)
   | (with_reducible refine LeO.ite ?_ ?_)
   | (with_reducible refine LeO.bind ?_ (fun _ => ?_))
   | exact caduceuslaw03_awake.mono _
   | exact caduceusref03_Read.mono _ _
   | exact value_Read.mono _ _
   | exact LeO.none _
   | refine LeO.ite ?_ ?_
   | refine LeO.bind ?_ (fun _ => ?_)
def caduceuslaw03_ValueReads.T5 : Bool × List (List Nat × List Nat) := (true, [([], []), ([0, 0], [0]), ([1], [1]), ([2, 1, 1], [1, 2]), ([1], [1]), ([4, 1], [1, 4]), ([3, 5, 1], [1, 3, 5]), ([1, 6], [1, 6]), ([7, 3], [7]), ([8], [8]), ([8], [8]), ([10, 8], [8, 10]), ([9, 11, 8], [8, 9, 11]), ([8, 12], [8, 12]), ([13, 8], [13]), ([14], [14]), ([14], [14]), ([16, 14], [14, 16]), ([15, 17, 14], [14, 15, 17]), ([14, 18], [14, 18]), ([19, 14, 0, 1, 2, 3, 4, 5, 6, 7, 8, 9, 10, 11, 12, 13, 14, 15, 16, 17, 18, 19], [19])])
def caduceuslaw03_ValueReads.B5 : List Nat := [0, 1, 3, 7, 3, 19, 63, 127, 255, 511, 511, 1535, 4095, 8191, 16383, 32767, 32767, 98303, 262143, 524287, 1048575]
theorem caduceuslaw03_ValueReads.tab5 : rtab .any (opsOf Tryd.f11 5) = caduceuslaw03_ValueReads.T5 := by kernel_rfl
theorem caduceuslaw03_ValueReads.bits5 : waitsOk caduceuslaw03_ValueReads.T5.2 caduceuslaw03_ValueReads.B5 = true := by kernel_rfl
set_option maxHeartbeats 8000000 in
set_option maxRecDepth 100000 in
theorem caduceuslaw03_ValueReads.calls (k : Nat) (a0 : ByteArray) (r : Bool) (w : World) (hT : Tabs w) (h : caduceuslaw03_ValueReads.f k a0 = some r) :
  Calls Tryd.prog 11 #[.string a0] w fun e w' => e = .returned (.bool r) ∧ Below w.heap.size w w' := by
 have hu25 := Tryd.underlying25
 have hu31 := Tryd.underlying31
 have hu29 := Tryd.underlying29
 have HB := Aside0.mk (Below.refl w.heap.size w)
 have H : ((caduceuslaw03_few.f a0).bind fun t435 => (if t435 = true then ((value_Read.f k a0).bind fun bt437 => ((caduceusref03_Read.f k a0).bind fun bt443 => ((caduceuslaw03_awake.f k).bind fun t449 => (if t449 = true then ((caduceuslaw03_Ref.f bt437.1 bt437.2.1 bt437.2.2.1).bind fun bt450 => (if (bt450.1 == bt443.1 && (bt450.2.1 == bt443.2.1 && (bt450.2.2.toList == bt443.2.2.1.toList))) = true then (if bt437.2.2.2.1.toList = bt443.2.2.2.1.toList then (some (bt437.2.2.2.2 == bt443.2.2.2.2)) else (none)) else (none))) else (none))))) else ((caduceuslaw03_awake.f k).bind fun t436 => (some t436)))) = some r := h
 clear h
 have HT := Aside0.mk hT
 clear hT
 replace H := Option.bind_eq_some_iff.mp H
 obtain ⟨t435, A20, H⟩ := H
 replace H : (if t435 = true then ((value_Read.f k a0).bind fun bt437 => ((caduceusref03_Read.f k a0).bind fun bt443 => ((caduceuslaw03_awake.f k).bind fun t449 => (if t449 = true then ((caduceuslaw03_Ref.f bt437.1 bt437.2.1 bt437.2.2.1).bind fun bt450 => (if (bt450.1 == bt443.1 && (bt450.2.1 == bt443.2.1 && (bt450.2.2.toList == bt443.2.2.1.toList))) = true then (if bt437.2.2.2.1.toList = bt443.2.2.2.1.toList then (some (bt437.2.2.2.2 == bt443.2.2.2.2)) else (none)) else (none))) else (none))))) else ((caduceuslaw03_awake.f k).bind fun t436 => (some t436))) = some r := H
 have A2 := Aside0.mk A20
 clear A20
 by_cases c3 : t435 = true
 ·subst c3
  have H1 : ((value_Read.f k a0).bind fun bt437 => ((caduceusref03_Read.f k a0).bind fun bt443 => ((caduceuslaw03_awake.f k).bind fun t449 => (if t449 = true then ((caduceuslaw03_Ref.f bt437.1 bt437.2.1 bt437.2.2.1).bind fun bt450 => (if (bt450.1 == bt443.1 && (bt450.2.1 == bt443.2.1 && (bt450.2.2.toList == bt443.2.2.1.toList))) = true then (if bt437.2.2.2.1.toList = bt443.2.2.2.1.toList then (some (bt437.2.2.2.2 == bt443.2.2.2.2)) else (none)) else (none))) else (none))))) = some r := by rw [if_pos rfl] at H; exact H
  clear H
  have H := H1
  clear H1
  replace H := Option.bind_eq_some_iff.mp H
  obtain ⟨⟨t437, t438, t439, t440, t441⟩, A40, H⟩ := H
  replace H : ((caduceusref03_Read.f k a0).bind fun bt443 => ((caduceuslaw03_awake.f k).bind fun t449 => (if t449 = true then ((caduceuslaw03_Ref.f t437 t438 t439).bind fun bt450 => (if (bt450.1 == bt443.1 && (bt450.2.1 == bt443.2.1 && (bt450.2.2.toList == bt443.2.2.1.toList))) = true then (if t440.toList = bt443.2.2.2.1.toList then (some (t441 == bt443.2.2.2.2)) else (none)) else (none))) else (none)))) = some r := H
  have A4 := Aside0.mk A40
  clear A40
  replace H := Option.bind_eq_some_iff.mp H
  obtain ⟨⟨t443, t444, t445, t446, t447⟩, A50, H⟩ := H
  replace H : ((caduceuslaw03_awake.f k).bind fun t449 => (if t449 = true then ((caduceuslaw03_Ref.f t437 t438 t439).bind fun bt450 => (if (bt450.1 == t443 && (bt450.2.1 == t444 && (bt450.2.2.toList == t445.toList))) = true then (if t440.toList = t446.toList then (some (t441 == t447)) else (none)) else (none))) else (none))) = some r := H
  have A5 := Aside0.mk A50
  clear A50
  replace H := Option.bind_eq_some_iff.mp H
  obtain ⟨t449, A60, H⟩ := H
  replace H : (if t449 = true then ((caduceuslaw03_Ref.f t437 t438 t439).bind fun bt450 => (if (bt450.1 == t443 && (bt450.2.1 == t444 && (bt450.2.2.toList == t445.toList))) = true then (if t440.toList = t446.toList then (some (t441 == t447)) else (none)) else (none))) else (none)) = some r := H
  have A6 := Aside0.mk A60
  clear A60
  by_cases c7 : t449 = true
  ·subst c7
   have H1 : ((caduceuslaw03_Ref.f t437 t438 t439).bind fun bt450 => (if (bt450.1 == t443 && (bt450.2.1 == t444 && (bt450.2.2.toList == t445.toList))) = true then (if t440.toList = t446.toList then (some (t441 == t447)) else (none)) else (none))) = some r := by rw [if_pos rfl] at H; exact H
   clear H
   have H := H1
   clear H1
   replace H := Option.bind_eq_some_iff.mp H
   obtain ⟨⟨t450, t451, t452⟩, A80, H⟩ := H
   replace H : (if (t450 == t443 && (t451 == t444 && (t452.toList == t445.toList))) = true then (if t440.toList = t446.toList then (some (t441 == t447)) else (none)) else (none)) = some r := H
   have A8 := Aside0.mk A80
   clear A80
   by_cases c9 : (t450 == t443 && (t451 == t444 && (t452.toList == t445.toList))) = true
   ·rw [if_pos c9] at H
    have c9b0 : (t450 == t443 && (t451 == t444 && (t452.toList == t445.toList))) = true := c9
    (try (have c9b1 : decide (t450 = t443 && (t451 == t444 && (t452.toList == t445.toList))) = true := by simpa using c9))
    (try (have c9b2 : (t450 == t443 && (t451 == t444 && (t452.toList == t445.toList))) = true := by simpa using c9))
    clear c9
    by_cases c10 : t440.toList = t446.toList
    ·rw [if_pos c10] at H
     have c10b0 : (t440.toList == t446.toList) = true := beq_iff_eq.mpr c10
     have c10b1 : (t440.toList != t446.toList) = false := bne_eq_false_iff_eq.mpr c10
     clear c10
     obtain rfl := Option.some.inj H
     go_enter Tryd.func11, Tryd.ntmps11
     try go_wp2_with (first | ((with_reducible refine gate_callee (f := 15) rfl ?_); refine goesA (some 8) Tryd.func15 #[.string a0] ?_; (with_reducible refine (caduceuslaw03_few.calls a0 true _ A2.out).mono ?_); rintro e w' ⟨rfl, ⟨nd, rfl⟩⟩; refine ⟨_, rfl, ?_⟩) | ((with_reducible refine gate_callee (f := 35) rfl ?_); refine goesA (some 13) Tryd.func35 #[.string a0] ?_; (with_reducible refine (value_Read.calls k a0 t437 t438 t439 t440 t441 _ ?side1 A4.out).mono ?_); (case side1 => exact Tabs.below HT.out bwA); rintro e w11 ⟨rfl, hb⟩; refine ⟨_, rfl, ?_⟩; have n0_ := Aside0.mk (below_step bwA hb); clear HB; have HB := n0_; clear n0_; (try clear hb); (try clear hb2); (try clear hk); (try clear hi)) | ((with_reducible refine gate_dst (N := 3) rfl ?_); refine box_event ?hg (N := 3) ?hd (cs := #[.int .i64 0, .int .i64 0, .string (⟨#[]⟩ : ByteArray)]) (t := 25) ?hr ?_; (case hd => rfl); (case hg => rfl); (case hr => first | (go_simp; done) | (go_simp; rfl)); intro gb442 hg w12 hbox hb; have n0_ := Aside0.mk (below_step bwA hb); have n1_ := Aside0.mk (hbox); have n2_ := Aside0.mk ((by rw [hg]; exact (below_size bwA) : w.heap.size ≤ gb442)); have n3_ := Aside0.mk ((by rw [hg]; exact (below_size bwA) : w.heap.size ≤ gb442)); clear HB; have HB := n0_; have BK442 := n1_; have GW442 := n2_; have GE442 := n3_; clear n0_ n1_ n2_ n3_; clear hb hbox hg; have hcz13_0 : w12.cell? ⟨gb442, 0, none⟩ = some (.int .i64 0) := (blk_cell BK442.out 0).trans rfl; have hcz13_1 : w12.cell? ⟨gb442, 1, none⟩ = some (.int .i64 0) := (blk_cell BK442.out 1).trans rfl; have hcz13_2 : w12.cell? ⟨gb442, 2, none⟩ = some (.string (⟨#[]⟩ : ByteArray)) := (blk_cell BK442.out 2).trans rfl; have hfz13_0 := blk_frozen BK442.out 0; have hfz13_1 := blk_frozen BK442.out 1; have hfz13_2 := blk_frozen BK442.out 2) | ((with_reducible refine gate_callee (f := 36) rfl ?_); refine goesA (some 18) Tryd.func36 #[.string a0] ?_; (with_reducible refine (caduceusref03_Read.calls k a0 t443 t444 t445 t446 t447 _ A5.out).mono ?_); rintro e w14 ⟨rfl, hb⟩; refine ⟨_, rfl, ?_⟩; have n0_ := Aside0.mk (blk_below (g := gb442) (o := .cells #[.int .i64 t437, .int .i64 t438, .string t439] 25 (0, 0)) (by (with_reducible repeat (first | refine blk_drewN ?_ _ | refine blk_drew ?_ | refine blk_alloc ?_ _)); refine blk_put (cs := #[.int .i64 t437, .int .i64 t438, .string (⟨#[]⟩ : ByteArray)]) ?_ 2 _ rfl; (with_reducible repeat (first | refine blk_drewN ?_ _ | refine blk_drew ?_ | refine blk_alloc ?_ _)); refine blk_put (cs := #[.int .i64 t437, .int .i64 0, .string (⟨#[]⟩ : ByteArray)]) ?_ 1 _ rfl; (with_reducible repeat (first | refine blk_drewN ?_ _ | refine blk_drew ?_ | refine blk_alloc ?_ _)); refine blk_put (cs := #[.int .i64 0, .int .i64 0, .string (⟨#[]⟩ : ByteArray)]) ?_ 0 _ rfl; (with_reducible repeat (first | refine blk_drewN ?_ _ | refine blk_drew ?_ | refine blk_alloc ?_ _)); exact BK442.out) hb); have n1_ := Aside0.mk (below_step bwA hb); clear BK442; clear HB; have BK442 := n0_; have HB := n1_; clear n0_ n1_; (try clear hb); (try clear hb2); (try clear hk); (try clear hi)) | ((with_reducible refine gate_dst (N := 6) rfl ?_); refine box_event ?hg (N := 6) ?hd (cs := #[.int .i64 0, .int .i64 0, .string (⟨#[]⟩ : ByteArray), .string (⟨#[]⟩ : ByteArray), .int .i64 0]) (t := 31) ?hr ?_; (case hd => rfl); (case hg => rfl); (case hr => first | (go_simp; done) | (go_simp; rfl)); intro gb448 hg w15 hbox hb; have n0_ := Aside0.mk (blk_below (g := gb442) (o := .cells #[.int .i64 t437, .int .i64 t438, .string t439] 25 (0, 0)) blkA hb); have n1_ := Aside0.mk (below_step bwA hb); have n2_ := Aside0.mk (hbox); have n3_ := Aside0.mk ((by rw [hg]; exact (below_size bwA) : w.heap.size ≤ gb448)); have n4_ := Aside0.mk ((by rw [hg]; exact (below_size bwA) : w.heap.size ≤ gb448)); have n5_ := Aside0.mk ((by rw [hg]; exact Nat.ne_of_lt (blk_lt (g := gb442) (o := .cells #[.int .i64 t437, .int .i64 t438, .string t439] 25 (0, 0)) blkA) : gb442 ≠ gb448)); have n6_ := Aside0.mk ((by rw [hg]; exact Nat.ne_of_gt (blk_lt (g := gb442) (o := .cells #[.int .i64 t437, .int .i64 t438, .string t439] 25 (0, 0)) blkA) : gb448 ≠ gb442)); clear BK442; clear HB; have BK442 := n0_; have HB := n1_; have BK448 := n2_; have GW448 := n3_; have GE448 := n4_; have NB442_448 := n5_; have NB448_442 := n6_; clear n0_ n1_ n2_ n3_ n4_ n5_ n6_; clear hb hbox hg; have hnb16 := NB448_442.out; have hnc16 := NB442_448.out; have hcz17_0 : w15.cell? ⟨gb448, 0, none⟩ = some (.int .i64 0) := (blk_cell BK448.out 0).trans rfl; have hcz17_1 : w15.cell? ⟨gb448, 1, none⟩ = some (.int .i64 0) := (blk_cell BK448.out 1).trans rfl; have hcz17_2 : w15.cell? ⟨gb448, 2, none⟩ = some (.string (⟨#[]⟩ : ByteArray)) := (blk_cell BK448.out 2).trans rfl; have hcz17_3 : w15.cell? ⟨gb448, 3, none⟩ = some (.string (⟨#[]⟩ : ByteArray)) := (blk_cell BK448.out 3).trans rfl; have hcz17_4 : w15.cell? ⟨gb448, 4, none⟩ = some (.int .i64 0) := (blk_cell BK448.out 4).trans rfl; have hfz17_0 := blk_frozen BK448.out 0; have hfz17_1 := blk_frozen BK448.out 1; have hfz17_2 := blk_frozen BK448.out 2; have hfz17_3 := blk_frozen BK448.out 3; have hfz17_4 := blk_frozen BK448.out 4))
     have n0_ : Aside0 ((((((w15.setCell ⟨gb448, 0, none⟩ (.int .i64 t443)).setCell ⟨gb448, 1, none⟩ (.int .i64 t444)).setCell ⟨gb448, 2, none⟩ (.string t445)).setCell ⟨gb448, 3, none⟩ (.string t446)).setCell ⟨gb448, 4, none⟩ (.int .i64 t447)).heap[gb442]? = some (.cells #[.int .i64 t437, .int .i64 t438, .string t439] 25 (0, 0))) := ⟨by (with_reducible repeat (first | refine blk_drewN ?_ _ | refine blk_drew ?_ | refine blk_alloc ?_ _)); refine blk_far ?_ NB442_448.out _; (with_reducible repeat (first | refine blk_drewN ?_ _ | refine blk_drew ?_ | refine blk_alloc ?_ _)); refine blk_far ?_ NB442_448.out _; (with_reducible repeat (first | refine blk_drewN ?_ _ | refine blk_drew ?_ | refine blk_alloc ?_ _)); refine blk_far ?_ NB442_448.out _; (with_reducible repeat (first | refine blk_drewN ?_ _ | refine blk_drew ?_ | refine blk_alloc ?_ _)); refine blk_far ?_ NB442_448.out _; (with_reducible repeat (first | refine blk_drewN ?_ _ | refine blk_drew ?_ | refine blk_alloc ?_ _)); refine blk_far ?_ NB442_448.out _; (with_reducible repeat (first | refine blk_drewN ?_ _ | refine blk_drew ?_ | refine blk_alloc ?_ _)); exact BK442.out⟩
     have n1_ : Aside0 ((((((w15.setCell ⟨gb448, 0, none⟩ (.int .i64 t443)).setCell ⟨gb448, 1, none⟩ (.int .i64 t444)).setCell ⟨gb448, 2, none⟩ (.string t445)).setCell ⟨gb448, 3, none⟩ (.string t446)).setCell ⟨gb448, 4, none⟩ (.int .i64 t447)).heap[gb448]? = some (.cells #[.int .i64 t443, .int .i64 t444, .string t445, .string t446, .int .i64 t447] 31 (0, 0))) := ⟨by (with_reducible repeat (first | refine blk_drewN ?_ _ | refine blk_drew ?_ | refine blk_alloc ?_ _)); refine blk_put (cs := #[.int .i64 t443, .int .i64 t444, .string t445, .string t446, .int .i64 0]) ?_ 4 _ rfl; (with_reducible repeat (first | refine blk_drewN ?_ _ | refine blk_drew ?_ | refine blk_alloc ?_ _)); refine blk_put (cs := #[.int .i64 t443, .int .i64 t444, .string t445, .string (⟨#[]⟩ : ByteArray), .int .i64 0]) ?_ 3 _ rfl; (with_reducible repeat (first | refine blk_drewN ?_ _ | refine blk_drew ?_ | refine blk_alloc ?_ _)); refine blk_put (cs := #[.int .i64 t443, .int .i64 t444, .string (⟨#[]⟩ : ByteArray), .string (⟨#[]⟩ : ByteArray), .int .i64 0]) ?_ 2 _ rfl; (with_reducible repeat (first | refine blk_drewN ?_ _ | refine blk_drew ?_ | refine blk_alloc ?_ _)); refine blk_put (cs := #[.int .i64 t443, .int .i64 0, .string (⟨#[]⟩ : ByteArray), .string (⟨#[]⟩ : ByteArray), .int .i64 0]) ?_ 1 _ rfl; (with_reducible repeat (first | refine blk_drewN ?_ _ | refine blk_drew ?_ | refine blk_alloc ?_ _)); refine blk_put (cs := #[.int .i64 0, .int .i64 0, .string (⟨#[]⟩ : ByteArray), .string (⟨#[]⟩ : ByteArray), .int .i64 0]) ?_ 0 _ rfl; (with_reducible repeat (first | refine blk_drewN ?_ _ | refine blk_drew ?_ | refine blk_alloc ?_ _)); exact BK448.out⟩
     have n2_ : Aside0 (Below w.heap.size w (((((w15.setCell ⟨gb448, 0, none⟩ (.int .i64 t443)).setCell ⟨gb448, 1, none⟩ (.int .i64 t444)).setCell ⟨gb448, 2, none⟩ (.string t445)).setCell ⟨gb448, 3, none⟩ (.string t446)).setCell ⟨gb448, 4, none⟩ (.int .i64 t447))) := ⟨by repeat (first | (with_reducible first | exact HB.out | apply below_alloc | apply pw_below_drewN | apply below_drew1 | refine below_set ?_ GE442.out | refine below_set ?_ GE448.out) | exact HB.out)⟩
     (try clear BK442)
     (try clear BK448)
     (try clear HB)
     generalize (((((w15.setCell ⟨gb448, 0, none⟩ (.int .i64 t443)).setCell ⟨gb448, 1, none⟩ (.int .i64 t444)).setCell ⟨gb448, 2, none⟩ (.string t445)).setCell ⟨gb448, 3, none⟩ (.string t446)).setCell ⟨gb448, 4, none⟩ (.int .i64 t447)) = w18 at n0_ n1_ n2_ ⊢
     have BK442 := n0_
     have BK448 := n1_
     have HB := n2_
     clear n0_ n1_ n2_
     have n0_ := Aside0.mk (blk_drew BK442.out)
     have n1_ := Aside0.mk (blk_drew BK448.out)
     have n2_ := Aside0.mk (below_drew1 HB.out)
     clear BK442
     clear BK448
     clear HB
     have BK442 := n0_
     have BK448 := n1_
     have HB := n2_
     clear n0_ n1_ n2_
     refine start_ (n := 21) (S := fun w' => w'.cell? ⟨gb442, 0, none⟩ = some (.int .i64 t437) ∧ w'.cell? ⟨gb442, 1, none⟩ = some (.int .i64 t438) ∧ w'.cell? ⟨gb442, 2, none⟩ = some (.string t439) ∧ w'.cell? ⟨gb448, 0, none⟩ = some (.int .i64 t443) ∧ w'.cell? ⟨gb448, 1, none⟩ = some (.int .i64 t444) ∧ w'.cell? ⟨gb448, 2, none⟩ = some (.string t445) ∧ w'.cell? ⟨gb448, 3, none⟩ = some (.string t446) ∧ w'.cell? ⟨gb448, 4, none⟩ = some (.int .i64 t447)) (ds := []) #[false, false, false, false, false, false, false, false, false, false, false, false, false, false, false, false, false, false, false, false, false] (by kernel_rfl) rfl rfl ⟨(blk_cell BK442.out 0).trans rfl, (blk_cell BK442.out 1).trans rfl, (blk_cell BK442.out 2).trans rfl, (blk_cell BK448.out 0).trans rfl, (blk_cell BK448.out 1).trans rfl, (blk_cell BK448.out 2).trans rfl, (blk_cell BK448.out 3).trans rfl, (blk_cell BK448.out 4).trans rfl⟩ (fun hHeld => ?_); refine with_tabW caduceuslaw03_ValueReads.tab5 caduceuslaw03_ValueReads.bits5 (fun HT_ HW_ => ?_)
     generalize w18.drew = w19 at BK442 BK448 HB hHeld ⊢
     refine one_ (i := 0) (N := some 19) #[true, false, false, false, false, false, false, false, false, false, false, false, false, false, false, false, false, false, false, false, false] rfl rfl (one_of HT_.out (by kernel_rfl)) (by decide) (fun K hK => ?_)
     refine goes_ Tryd.func16 (by kernel_rfl) rfl #[] (by rfl) rfl rfl (by (try simp only [List.map_toArray, List.map_cons, List.map_nil]); first | done | rfl | (simp only [List.length_drop, List.length_take]; rfl)) ?_
     with_reducible refine (caduceuslaw03_awake.calls k  true _ ?side1 A6.out).mono ?_
     (case side1 => exact Tabs.below HT.out bwA)
     rintro e w20 ⟨rfl, hb⟩
     refine ⟨_, rfl, ?_⟩
     have n0_ := Aside0.mk (blk_below (g := gb442) (o := .cells #[.int .i64 t437, .int .i64 t438, .string t439] 25 (0, 0)) blkA hb)
     have n1_ := Aside0.mk (blk_below (g := gb448) (o := .cells #[.int .i64 t443, .int .i64 t444, .string t445, .string t446, .int .i64 t447] 31 (0, 0)) blkA hb)
     have n2_ := Aside0.mk (below_step bwA hb)
     clear BK442
     clear BK448
     clear HB
     have BK442 := n0_
     have BK448 := n1_
     have HB := n2_
     clear n0_ n1_ n2_
     (try clear hb)
     (try clear hb2)
     (try clear hk)
     (try clear hi)
     refine hK.out _ _ ⟨(blk_cell BK442.out 0).trans rfl, (blk_cell BK442.out 1).trans rfl, (blk_cell BK442.out 2).trans rfl, (blk_cell BK448.out 0).trans rfl, (blk_cell BK448.out 1).trans rfl, (blk_cell BK448.out 2).trans rfl, (blk_cell BK448.out 3).trans rfl, (blk_cell BK448.out 4).trans rfl⟩ (fun hHeld => ?_)
     clear hK K
     refine norm_ (a' := ?_) ?_ ?_
     rotate_left
     ·show Act.put _ (some 19) _ = _
      simp only [Act.put, List.setIfInBounds_toArray, List.set_cons_zero, List.set_cons_succ, i64_w, i32_w]
      rfl
     refine pure_ (i := 1) (N := some 20) (v := ?_) (a' := ?_) #[true, true, false, false, false, false, false, false, false, false, false, false, false, false, false, false, false, false, false, false, false] rfl rfl (any_of HT_.out (by kernel_rfl)) (fun _ _ _ h => h) (Or.inl ⟨by rfl, ?_⟩) ?_ ?_
     rotate_left
     ·intro w'
      go_simp
      with_reducible rfl
     rotate_left
     ·simp only [Act.put, List.setIfInBounds_toArray, List.set_cons_zero, List.set_cons_succ, i64_w, i32_w]
      rfl
     refine pure_ (i := 4) (N := some 23) (v := ?_) (a' := ?_) #[true, true, false, false, true, false, false, false, false, false, false, false, false, false, false, false, false, false, false, false, false] rfl rfl (any_of HT_.out (by kernel_rfl)) (fun _ _ _ h => h) (Or.inl ⟨by rfl, ?_⟩) ?_ ?_
     rotate_left
     ·intro w'
      go_simp
      with_reducible rfl
     rotate_left
     ·simp only [Act.put, List.setIfInBounds_toArray, List.set_cons_zero, List.set_cons_succ, i64_w, i32_w]
      rfl
     refine take_ (i := 2) (N := some 21) (v := ?_) (a' := ?_) #[true, true, true, false, true, false, false, false, false, false, false, false, false, false, false, false, false, false, false, false, false] rfl rfl (take_ofW HT_.out HW_.out (by kernel_rfl)) (fun _ _ _ h => h) (Or.inl ⟨by rfl, ?_⟩) hHeld ?_ ?_
     rotate_left
     ·rintro w' ⟨s0, s1, s2, s3, s4, s5, s6, s7⟩
      go_simp
      with_reducible rfl
     rotate_left
     ·simp only [Act.put, List.setIfInBounds_toArray, List.set_cons_zero, List.set_cons_succ, i64_w, i32_w]
      rfl
     refine take_ (i := 5) (N := some 24) (v := ?_) (a' := ?_) #[true, true, true, false, true, true, false, false, false, false, false, false, false, false, false, false, false, false, false, false, false] rfl rfl (take_ofW HT_.out HW_.out (by kernel_rfl)) (fun _ _ _ h => h) (Or.inl ⟨by rfl, ?_⟩) hHeld ?_ ?_
     rotate_left
     ·rintro w' ⟨s0, s1, s2, s3, s4, s5, s6, s7⟩
      go_simp
      with_reducible rfl
     rotate_left
     ·simp only [Act.put, List.setIfInBounds_toArray, List.set_cons_zero, List.set_cons_succ, i64_w, i32_w]
      rfl
     refine one_ (i := 3) (N := some 22) #[true, true, true, true, true, true, false, false, false, false, false, false, false, false, false, false, false, false, false, false, false] rfl rfl (one_of HT_.out (by kernel_rfl)) (by decide) (fun K hK => ?_)
     refine goes_ Tryd.func21 (by kernel_rfl) rfl #[.agg #[.int .i64 t437, .int .i64 t438, .string t439]] (by rfl) rfl rfl (by (try simp only [List.map_toArray, List.map_cons, List.map_nil]); first | done | rfl | (simp only [List.length_drop, List.length_take]; rfl)) ?_
     with_reducible refine (caduceuslaw03_Ref.calls t437 t438 t439 t450 t451 t452 _ A8.out).mono ?_
     rintro e w21 ⟨rfl, hb⟩
     refine ⟨_, rfl, ?_⟩
     have n0_ := Aside0.mk (blk_below (g := gb442) (o := .cells #[.int .i64 t437, .int .i64 t438, .string t439] 25 (0, 0)) blkA hb)
     have n1_ := Aside0.mk (blk_below (g := gb448) (o := .cells #[.int .i64 t443, .int .i64 t444, .string t445, .string t446, .int .i64 t447] 31 (0, 0)) blkA hb)
     have n2_ := Aside0.mk (below_step bwA hb)
     clear BK442
     clear BK448
     clear HB
     have BK442 := n0_
     have BK448 := n1_
     have HB := n2_
     clear n0_ n1_ n2_
     (try clear hb)
     (try clear hb2)
     (try clear hk)
     (try clear hi)
     refine hK.out _ _ ⟨(blk_cell BK442.out 0).trans rfl, (blk_cell BK442.out 1).trans rfl, (blk_cell BK442.out 2).trans rfl, (blk_cell BK448.out 0).trans rfl, (blk_cell BK448.out 1).trans rfl, (blk_cell BK448.out 2).trans rfl, (blk_cell BK448.out 3).trans rfl, (blk_cell BK448.out 4).trans rfl⟩ (fun hHeld => ?_)
     clear hK K
     refine norm_ (a' := ?_) ?_ ?_
     rotate_left
     ·show Act.put _ (some 22) _ = _
      simp only [Act.put, List.setIfInBounds_toArray, List.set_cons_zero, List.set_cons_succ, i64_w, i32_w]
      rfl
     refine pure_ (i := 6) (N := some 25) (v := ?_) (a' := ?_) #[true, true, true, true, true, true, true, false, false, false, false, false, false, false, false, false, false, false, false, false, false] rfl rfl (any_of HT_.out (by kernel_rfl)) (fun _ _ _ h => h) (Or.inl ⟨by rfl, ?_⟩) ?_ ?_
     rotate_left
     ·intro w'
      go_simp
      with_reducible rfl
     rotate_left
     ·simp only [Act.put, List.setIfInBounds_toArray, List.set_cons_zero, List.set_cons_succ, i64_w, i32_w]
      rfl
     refine pure_ (i := 7) (N := some 26) (v := ?_) (a' := ?_) #[true, true, true, true, true, true, true, true, false, false, false, false, false, false, false, false, false, false, false, false, false] rfl rfl (any_of HT_.out (by kernel_rfl)) (fun _ _ _ h => h) (Or.inl ⟨by rfl, ?_⟩) ?_ ?_
     rotate_left
     ·intro w'
      go_simp
      with_reducible rfl
     rotate_left
     ·simp only [Act.put, List.setIfInBounds_toArray, List.set_cons_zero, List.set_cons_succ, i64_w, i32_w]
      rfl
     refine pure_ (i := 8) (N := some 27) (v := ?_) (a' := ?_) #[true, true, true, true, true, true, true, true, true, false, false, false, false, false, false, false, false, false, false, false, false] rfl rfl (any_of HT_.out (by kernel_rfl)) (fun _ _ _ h => h) (Or.inl ⟨by rfl, ?_⟩) ?_ ?_
     rotate_left
     ·intro w'
      go_simp
      with_reducible rfl
     rotate_left
     ·simp only [Act.put, List.setIfInBounds_toArray, List.set_cons_zero, List.set_cons_succ, i64_w, i32_w]
      rfl
     refine pure_ (i := 9) (N := some 28) (v := ?_) (a' := ?_) #[true, true, true, true, true, true, true, true, true, true, false, false, false, false, false, false, false, false, false, false, false] rfl rfl (any_of HT_.out (by kernel_rfl)) (fun _ _ _ h => h) (Or.inl ⟨by rfl, ?_⟩) ?_ ?_
     rotate_left
     ·intro w'
      go_simp
      with_reducible rfl
     rotate_left
     ·simp only [Act.put, List.setIfInBounds_toArray, List.set_cons_zero, List.set_cons_succ, i64_w, i32_w]
      rfl
     refine pure_ (i := 10) (N := some 29) (v := ?_) (a' := ?_) #[true, true, true, true, true, true, true, true, true, true, true, false, false, false, false, false, false, false, false, false, false] rfl rfl (any_of HT_.out (by kernel_rfl)) (fun _ _ _ h => h) (Or.inl ⟨by rfl, ?_⟩) ?_ ?_
     rotate_left
     ·intro w'
      go_simp
      with_reducible rfl
     rotate_left
     ·simp only [Act.put, List.setIfInBounds_toArray, List.set_cons_zero, List.set_cons_succ, i64_w, i32_w]
      rfl
     refine take_ (i := 11) (N := some 30) (v := ?_) (a' := ?_) #[true, true, true, true, true, true, true, true, true, true, true, true, false, false, false, false, false, false, false, false, false] rfl rfl (take_ofW HT_.out HW_.out (by kernel_rfl)) (fun _ _ _ h => h) (Or.inl ⟨by rfl, ?_⟩) hHeld ?_ ?_
     rotate_left
     ·rintro w' ⟨s0, s1, s2, s3, s4, s5, s6, s7⟩
      go_simp
      with_reducible rfl
     rotate_left
     ·simp only [Act.put, List.setIfInBounds_toArray, List.set_cons_zero, List.set_cons_succ, i64_w, i32_w]
      rfl
     refine pure_ (i := 12) (N := some 31) (v := ?_) (a' := ?_) #[true, true, true, true, true, true, true, true, true, true, true, true, true, false, false, false, false, false, false, false, false] rfl rfl (any_of HT_.out (by kernel_rfl)) (fun _ _ _ h => h) (Or.inl ⟨by rfl, ?_⟩) ?_ ?_
     rotate_left
     ·intro w'
      go_simp
      with_reducible rfl
     rotate_left
     ·simp only [Act.put, List.setIfInBounds_toArray, List.set_cons_zero, List.set_cons_succ, i64_w, i32_w]
      rfl
     refine pure_ (i := 13) (N := some 32) (v := ?_) (a' := ?_) #[true, true, true, true, true, true, true, true, true, true, true, true, true, true, false, false, false, false, false, false, false] rfl rfl (any_of HT_.out (by kernel_rfl)) (fun _ _ _ h => h) (Or.inl ⟨by rfl, ?_⟩) ?_ ?_
     rotate_left
     ·intro w'
      go_simp
      with_reducible rfl
     rotate_left
     ·simp only [Act.put, List.setIfInBounds_toArray, List.set_cons_zero, List.set_cons_succ, i64_w, i32_w]
      rfl
     refine pure_ (i := 14) (N := some 33) (v := ?_) (a' := ?_) #[true, true, true, true, true, true, true, true, true, true, true, true, true, true, true, false, false, false, false, false, false] rfl rfl (any_of HT_.out (by kernel_rfl)) (fun _ _ _ h => h) (Or.inl ⟨by rfl, ?_⟩) ?_ ?_
     rotate_left
     ·intro w'
      go_simp
      with_reducible rfl
     rotate_left
     ·simp only [Act.put, List.setIfInBounds_toArray, List.set_cons_zero, List.set_cons_succ, i64_w, i32_w]
      rfl
     refine pure_ (i := 15) (N := some 34) (v := ?_) (a' := ?_) #[true, true, true, true, true, true, true, true, true, true, true, true, true, true, true, true, false, false, false, false, false] rfl rfl (any_of HT_.out (by kernel_rfl)) (fun _ _ _ h => h) (Or.inl ⟨by rfl, ?_⟩) ?_ ?_
     rotate_left
     ·intro w'
      go_simp
      with_reducible rfl
     rotate_left
     ·simp only [Act.put, List.setIfInBounds_toArray, List.set_cons_zero, List.set_cons_succ, i64_w, i32_w]
      rfl
     refine pure_ (i := 16) (N := some 35) (v := ?_) (a' := ?_) #[true, true, true, true, true, true, true, true, true, true, true, true, true, true, true, true, true, false, false, false, false] rfl rfl (any_of HT_.out (by kernel_rfl)) (fun _ _ _ h => h) (Or.inl ⟨by rfl, ?_⟩) ?_ ?_
     rotate_left
     ·intro w'
      go_simp
      with_reducible rfl
     rotate_left
     ·simp only [Act.put, List.setIfInBounds_toArray, List.set_cons_zero, List.set_cons_succ, i64_w, i32_w]
      rfl
     refine take_ (i := 17) (N := some 36) (v := ?_) (a' := ?_) #[true, true, true, true, true, true, true, true, true, true, true, true, true, true, true, true, true, true, false, false, false] rfl rfl (take_ofW HT_.out HW_.out (by kernel_rfl)) (fun _ _ _ h => h) (Or.inl ⟨by rfl, ?_⟩) hHeld ?_ ?_
     rotate_left
     ·rintro w' ⟨s0, s1, s2, s3, s4, s5, s6, s7⟩
      go_simp
      with_reducible rfl
     rotate_left
     ·simp only [Act.put, List.setIfInBounds_toArray, List.set_cons_zero, List.set_cons_succ, i64_w, i32_w]
      rfl
     refine pure_ (i := 18) (N := some 37) (v := ?_) (a' := ?_) #[true, true, true, true, true, true, true, true, true, true, true, true, true, true, true, true, true, true, true, false, false] rfl rfl (any_of HT_.out (by kernel_rfl)) (fun _ _ _ h => h) (Or.inl ⟨by rfl, ?_⟩) ?_ ?_
     rotate_left
     ·intro w'
      go_simp
      with_reducible rfl
     rotate_left
     ·simp only [Act.put, List.setIfInBounds_toArray, List.set_cons_zero, List.set_cons_succ, i64_w, i32_w]
      rfl
     refine pure_ (i := 19) (N := some 38) (v := ?_) (a' := ?_) #[true, true, true, true, true, true, true, true, true, true, true, true, true, true, true, true, true, true, true, true, false] rfl rfl (any_of HT_.out (by kernel_rfl)) (fun _ _ _ h => h) (Or.inl ⟨by rfl, ?_⟩) ?_ ?_
     rotate_left
     ·intro w'
      go_simp
      with_reducible rfl
     rotate_left
     ·simp only [Act.put, List.setIfInBounds_toArray, List.set_cons_zero, List.set_cons_succ, i64_w, i32_w]
      rfl
     refine pure_ (i := 20) (N := some 2) (v := ?_) (a' := ?_) #[true, true, true, true, true, true, true, true, true, true, true, true, true, true, true, true, true, true, true, true, true] rfl rfl (any_of HT_.out (by kernel_rfl)) (fun _ _ _ h => h) (Or.inl ⟨by rfl, ?_⟩) ?_ ?_
     rotate_left
     ·intro w'
      go_simp
      with_reducible rfl
     rotate_left
     ·simp only [Act.put, List.setIfInBounds_toArray, List.set_cons_zero, List.set_cons_succ, i64_w, i32_w]
      rfl
     refine done_ (done_of HT_.out (by kernel_rfl)) ?_
     try go_wp2
     go_ret
     exact ⟨by first | rfl | (simp [errW_none, errW_some] <;> rfl) | (simp [*, errW_none, errW_some] <;> rfl), by repeat (first | (with_reducible first | exact HB.out | apply below_alloc | apply pw_below_drewN | apply below_drew1 | refine below_set ?_ GE442.out | refine below_set ?_ GE448.out) | exact HB.out)⟩
    ·rw [if_neg c10] at H
     have c10b0 : (t440.toList == t446.toList) = false := beq_eq_false_iff_ne.mpr c10
     have c10b1 : (t440.toList != t446.toList) = true := bne_iff_ne.mpr c10
     exact absurd H (by simp)
   ·rw [if_neg c9] at H
    have c9b0 : (t450 == t443 && (t451 == t444 && (t452.toList == t445.toList))) = false := by simpa using c9
    (try (have c9b1 : decide (t450 = t443 && (t451 == t444 && (t452.toList == t445.toList))) = false := by simpa using c9))
    (try (have c9b2 : (t450 == t443 && (t451 == t444 && (t452.toList == t445.toList))) = false := by simpa using c9))
    (try (have c9b3 : ¬ (t450 = t443 && (t451 == t444 && (t452.toList == t445.toList))) := by simpa using c9))
    clear c9
    exact absurd H (by simp)
  ·replace c7 := Bool.eq_false_iff.mpr c7
   subst c7
   have H1 : (none) = some r := by rw [if_neg (show ¬ (false = true) by decide)] at H; exact H
   clear H
   have H := H1
   clear H1
   exact absurd H (by simp)
 ·replace c3 := Bool.eq_false_iff.mpr c3
  subst c3
  have H1 : ((caduceuslaw03_awake.f k).bind fun t436 => (some t436)) = some r := by rw [if_neg (show ¬ (false = true) by decide)] at H; exact H
  clear H
  have H := H1
  clear H1
  replace H := Option.bind_eq_some_iff.mp H
  obtain ⟨t436, A220, H⟩ := H
  replace H : (some t436) = some r := H
  have A22 := Aside0.mk A220
  clear A220
  obtain rfl := Option.some.inj H
  go_enter Tryd.func11, Tryd.ntmps11
  go_wp2_with (first | ((with_reducible refine gate_callee (f := 15) rfl ?_); refine goesA (some 8) Tryd.func15 #[.string a0] ?_; (with_reducible refine (caduceuslaw03_few.calls a0 false _ A2.out).mono ?_); rintro e w' ⟨rfl, ⟨nd, rfl⟩⟩; refine ⟨_, rfl, ?_⟩) | ((with_reducible refine gate_callee (f := 16) rfl ?_); refine goesA (some 10) Tryd.func16 #[] ?_; (with_reducible refine (caduceuslaw03_awake.calls k  t436 _ ?side1 A22.out).mono ?_); (case side1 => exact Tabs.below HT.out bwA); rintro e w23 ⟨rfl, hb⟩; refine ⟨_, rfl, ?_⟩; have n0_ := Aside0.mk (below_step bwA hb); clear HB; have HB := n0_; clear n0_; (try clear hb); (try clear hb2); (try clear hk); (try clear hi)))
  go_ret
  exact ⟨by first | rfl | (simp [errW_none, errW_some] <;> rfl) | (simp [*, errW_none, errW_some] <;> rfl), by repeat (first | (with_reducible first | exact HB.out | apply below_alloc | apply pw_below_drewN | apply below_drew1) | exact HB.out)⟩

end Go.Proofs.YtoajlmmkkcelgaaDoor.A
