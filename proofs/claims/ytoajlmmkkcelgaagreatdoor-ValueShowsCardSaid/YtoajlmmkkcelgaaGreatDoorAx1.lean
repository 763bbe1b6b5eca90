-- By drv.py, the session's own driver round the kit's print: the machine's side of the laws, function by function. Not trusted: Lean checks it.
import Derived.Test.YtoajlmmkkcelgaaGreatDoorAx0
namespace Go.Proofs.YtoajlmmkkcelgaaGreatDoor.A
open Go.RowKit Go.Proofs.YtoajlmmkkcelgaaGreatDoorW.PrintWords Go.Proofs.YtoajlmmkkcelgaaGreatDoorW.PrintLast Go.Proofs.YtoajlmmkkcelgaaGreatDoorW.PrintMore
attribute [local go_sem] max2_int min2_int max_two min_two max_three min_three max_four min_four   -- for this text's walks alone
set_option linter.unusedVariables false
set_option linter.unusedSimpArgs false

/-! ### caduceuslaw03_few: function 4 -/
def caduceuslaw03_few.f (a0 : ByteArray) : Option (Bool) := some (decide ((a0.size : Int) ≤ 2000))
set_option maxHeartbeats 8000000 in
set_option maxRecDepth 100000 in
theorem caduceuslaw03_few.calls (a0 : ByteArray) (r : Bool) (w : World) (h : caduceuslaw03_few.f a0 = some r) :
  Calls Tryz.prog 4 #[.string a0] w fun e w' => e = .returned (.bool r) ∧ Drawn0 w w' := by
 have H : (some (decide ((a0.size : Int) ≤ 2000))) = some r := h
 clear h
 obtain rfl := Option.some.inj H
 go_enter Tryz.func4, Tryz.ntmps4
 go_wp2
 go_ret
 exact ⟨by first | rfl | (simp; done) | (simp [*]; done) | (simp [wrap64]; done), by repeat (first | exact Drawn0.refl _ | apply Drawn0.step)⟩

/-! ### utf8_ValidString: function 26, by hand -/
def utf8_ValidString.f (a0 : ByteArray) : Option Bool := if a0.size ≤ 9223372036854775807 then some (Lib.validD a0.data.toList) else none
theorem utf8_ValidString.calls (a0 : ByteArray) (r : Bool) (w : World) (hT : Tabs w) (h : utf8_ValidString.f a0 = some r) :
  Calls Tryz.prog 26 #[.string a0] w fun e w' => e = .returned (.bool r) ∧ Below w.heap.size w w' := by
 unfold utf8_ValidString.f at h
 split at h
 ·rename_i hs
  obtain rfl := Option.some.inj h
  exact Tryz.utf8_ValidString a0 w hs hT.u8
 ·cases h

/-! ### value_Check: function 12 -/
def value_Check.f (a0_0 : Int) (a0_1 : Int) (a0_2 : ByteArray) : Option (Bool) := if a0_0 = 1 then (if a0_1 ≥ (-9007199254740991) then (if a0_1 ≤ 9007199254740991 then (some (a0_2.toList == ([] : List UInt8))) else (some false)) else (some false)) else (if a0_0 = 2 then (if a0_1 = 0 then (if (a0_2.size : Int) ≤ 200 then ((utf8_ValidString.f a0_2).bind fun t102 => (some t102)) else (some false)) else (some false)) else (if a0_0 = 3 then (if a0_1 = 0 then (some (a0_2.toList == ([] : List UInt8))) else (if a0_1 = 1 then (some (a0_2.toList == ([] : List UInt8))) else (some false))) else (if a0_0 = 4 then (if a0_1 = 0 then (some (decide ((a0_2.size : Int) ≤ 200))) else (some false)) else (some false))))
set_option maxHeartbeats 8000000 in
set_option maxRecDepth 100000 in
theorem value_Check.calls (a0_0 : Int) (a0_1 : Int) (a0_2 : ByteArray) (r : Bool) (w : World) (hT : Tabs w) (h : value_Check.f a0_0 a0_1 a0_2 = some r) :
  Calls Tryz.prog 12 #[.agg #[.int .i64 a0_0, .int .i64 a0_1, .string a0_2]] w fun e w' => e = .returned (.bool r) ∧ Below w.heap.size w w' := by
 have hu23 := Tryz.underlying23
 have HB := Aside0.mk (Below.refl w.heap.size w)
 have H : (if a0_0 = 1 then (if a0_1 ≥ (-9007199254740991) then (if a0_1 ≤ 9007199254740991 then (some (a0_2.toList == ([] : List UInt8))) else (some false)) else (some false)) else (if a0_0 = 2 then (if a0_1 = 0 then (if (a0_2.size : Int) ≤ 200 then ((utf8_ValidString.f a0_2).bind fun t102 => (some t102)) else (some false)) else (some false)) else (if a0_0 = 3 then (if a0_1 = 0 then (some (a0_2.toList == ([] : List UInt8))) else (if a0_1 = 1 then (some (a0_2.toList == ([] : List UInt8))) else (some false))) else (if a0_0 = 4 then (if a0_1 = 0 then (some (decide ((a0_2.size : Int) ≤ 200))) else (some false)) else (some false))))) = some r := h
 clear h
 have HT := Aside0.mk hT
 clear hT
 by_cases c2 : a0_0 = 1
 ·rw [if_pos c2] at H
  have c2b0 : (a0_0 == 1) = true := beq_iff_eq.mpr c2
  have c2b1 : (a0_0 != 1) = false := bne_eq_false_iff_eq.mpr c2
  clear c2
  by_cases c3 : a0_1 ≥ (-9007199254740991)
  ·rw [if_pos c3] at H
   have c3b0 : decide ((-9007199254740991) ≤ a0_1) = true := decide_eq_true c3
   clear c3
   by_cases c4 : a0_1 ≤ 9007199254740991
   ·rw [if_pos c4] at H
    have c4b0 : decide (a0_1 ≤ 9007199254740991) = true := decide_eq_true c4
    clear c4
    obtain rfl := Option.some.inj H
    go_enter Tryz.func12, Tryz.ntmps12
    go_wp2_with (first | ((with_reducible refine gate_dst (N := 1) rfl ?_); (try (refine gate_guard (by rfl) ?_; dsimp only)); refine box_event ?hg (N := 1) ?hd (cs := #[.int .i64 a0_0, .int .i64 a0_1, .string a0_2]) (t := 23) ?hr ?_; (case hd => rfl); (case hg => rfl); (case hr => first | (go_simp; done) | (go_simp; rfl)); intro gb101 hg w5 hbox hb; have n0_ := Aside0.mk (below_step bwA hb); have n1_ := Aside0.mk (hbox); have n2_ := Aside0.mk ((by rw [hg]; exact (below_size bwA) : w.heap.size ≤ gb101)); have n3_ := Aside0.mk ((by rw [hg]; exact (below_size bwA) : w.heap.size ≤ gb101)); clear HB; have HB := n0_; have BK101 := n1_; have GW101 := n2_; have GE101 := n3_; clear n0_ n1_ n2_ n3_; clear hb hbox hg; have hcz6_0 : w5.cell? ⟨gb101, 0, none⟩ = some (.int .i64 a0_0) := (blk_cell BK101.out 0).trans rfl; have hcz6_1 : w5.cell? ⟨gb101, 1, none⟩ = some (.int .i64 a0_1) := (blk_cell BK101.out 1).trans rfl; have hcz6_2 : w5.cell? ⟨gb101, 2, none⟩ = some (.string a0_2) := (blk_cell BK101.out 2).trans rfl; have hfz6_0 := blk_frozen BK101.out 0; have hfz6_1 := blk_frozen BK101.out 1; have hfz6_2 := blk_frozen BK101.out 2))
    go_ret
    exact ⟨by first | rfl | (simp [errW_none, errW_some] <;> rfl) | (simp [*, errW_none, errW_some] <;> rfl), by repeat (first | (with_reducible first | exact HB.out | apply below_alloc | apply pw_below_drewN | apply below_drew1 | refine below_set ?_ GE101.out) | exact HB.out)⟩
   ·rw [if_neg c4] at H
    have c4b0 : decide (a0_1 ≤ 9007199254740991) = false := decide_eq_false c4
    clear c4
    obtain rfl := Option.some.inj H
    go_enter Tryz.func12, Tryz.ntmps12
    go_wp2_with (first | ((with_reducible refine gate_dst (N := 1) rfl ?_); (try (refine gate_guard (by rfl) ?_; dsimp only)); refine box_event ?hg (N := 1) ?hd (cs := #[.int .i64 a0_0, .int .i64 a0_1, .string a0_2]) (t := 23) ?hr ?_; (case hd => rfl); (case hg => rfl); (case hr => first | (go_simp; done) | (go_simp; rfl)); intro gb101 hg w7 hbox hb; have n0_ := Aside0.mk (below_step bwA hb); have n1_ := Aside0.mk (hbox); have n2_ := Aside0.mk ((by rw [hg]; exact (below_size bwA) : w.heap.size ≤ gb101)); have n3_ := Aside0.mk ((by rw [hg]; exact (below_size bwA) : w.heap.size ≤ gb101)); clear HB; have HB := n0_; have BK101 := n1_; have GW101 := n2_; have GE101 := n3_; clear n0_ n1_ n2_ n3_; clear hb hbox hg; have hcz8_0 : w7.cell? ⟨gb101, 0, none⟩ = some (.int .i64 a0_0) := (blk_cell BK101.out 0).trans rfl; have hcz8_1 : w7.cell? ⟨gb101, 1, none⟩ = some (.int .i64 a0_1) := (blk_cell BK101.out 1).trans rfl; have hcz8_2 : w7.cell? ⟨gb101, 2, none⟩ = some (.string a0_2) := (blk_cell BK101.out 2).trans rfl; have hfz8_0 := blk_frozen BK101.out 0; have hfz8_1 := blk_frozen BK101.out 1; have hfz8_2 := blk_frozen BK101.out 2))
    go_ret
    exact ⟨by first | rfl | (simp [errW_none, errW_some] <;> rfl) | (simp [*, errW_none, errW_some] <;> rfl), by repeat (first | (with_reducible first | exact HB.out | apply below_alloc | apply pw_below_drewN | apply below_drew1 | refine below_set ?_ GE101.out) | exact HB.out)⟩
  ·rw [if_neg c3] at H
   have c3b0 : decide ((-9007199254740991) ≤ a0_1) = false := decide_eq_false c3
   clear c3
   obtain rfl := Option.some.inj H
   go_enter Tryz.func12, Tryz.ntmps12
   go_wp2_with (first | ((with_reducible refine gate_dst (N := 1) rfl ?_); (try (refine gate_guard (by rfl) ?_; dsimp only)); refine box_event ?hg (N := 1) ?hd (cs := #[.int .i64 a0_0, .int .i64 a0_1, .string a0_2]) (t := 23) ?hr ?_; (case hd => rfl); (case hg => rfl); (case hr => first | (go_simp; done) | (go_simp; rfl)); intro gb101 hg w9 hbox hb; have n0_ := Aside0.mk (below_step bwA hb); have n1_ := Aside0.mk (hbox); have n2_ := Aside0.mk ((by rw [hg]; exact (below_size bwA) : w.heap.size ≤ gb101)); have n3_ := Aside0.mk ((by rw [hg]; exact (below_size bwA) : w.heap.size ≤ gb101)); clear HB; have HB := n0_; have BK101 := n1_; have GW101 := n2_; have GE101 := n3_; clear n0_ n1_ n2_ n3_; clear hb hbox hg; have hcz10_0 : w9.cell? ⟨gb101, 0, none⟩ = some (.int .i64 a0_0) := (blk_cell BK101.out 0).trans rfl; have hcz10_1 : w9.cell? ⟨gb101, 1, none⟩ = some (.int .i64 a0_1) := (blk_cell BK101.out 1).trans rfl; have hcz10_2 : w9.cell? ⟨gb101, 2, none⟩ = some (.string a0_2) := (blk_cell BK101.out 2).trans rfl; have hfz10_0 := blk_frozen BK101.out 0; have hfz10_1 := blk_frozen BK101.out 1; have hfz10_2 := blk_frozen BK101.out 2))
   go_ret
   exact ⟨by first | rfl | (simp [errW_none, errW_some] <;> rfl) | (simp [*, errW_none, errW_some] <;> rfl), by repeat (first | (with_reducible first | exact HB.out | apply below_alloc | apply pw_below_drewN | apply below_drew1 | refine below_set ?_ GE101.out) | exact HB.out)⟩
 ·rw [if_neg c2] at H
  have c2b0 : (a0_0 == 1) = false := beq_eq_false_iff_ne.mpr c2
  have c2b1 : (a0_0 != 1) = true := bne_iff_ne.mpr c2
  by_cases c11 : a0_0 = 2
  ·rw [if_pos c11] at H
   have c11b0 : (a0_0 == 2) = true := beq_iff_eq.mpr c11
   have c11b1 : (a0_0 != 2) = false := bne_eq_false_iff_eq.mpr c11
   clear c11
   by_cases c12 : a0_1 = 0
   ·rw [if_pos c12] at H
    have c12b0 : (a0_1 == 0) = true := beq_iff_eq.mpr c12
    have c12b1 : (a0_1 != 0) = false := bne_eq_false_iff_eq.mpr c12
    clear c12
    by_cases c13 : (a0_2.size : Int) ≤ 200
    ·rw [if_pos c13] at H
     have c13b0 : decide ((a0_2.size : Int) ≤ 200) = true := decide_eq_true c13
     have c13b1 : decide (a0_2.size ≤ 200) = true := decide_eq_true (by omega)
     clear c13
     replace H := Option.bind_eq_some_iff.mp H
     obtain ⟨t102, A140, H⟩ := H
     replace H : (some t102) = some r := H
     have A14 := Aside0.mk A140
     clear A140
     obtain rfl := Option.some.inj H
     go_enter Tryz.func12, Tryz.ntmps12
     go_wp2_with (first | ((with_reducible refine gate_dst (N := 1) rfl ?_); (try (refine gate_guard (by rfl) ?_; dsimp only)); refine box_event ?hg (N := 1) ?hd (cs := #[.int .i64 a0_0, .int .i64 a0_1, .string a0_2]) (t := 23) ?hr ?_; (case hd => rfl); (case hg => rfl); (case hr => first | (go_simp; done) | (go_simp; rfl)); intro gb101 hg w15 hbox hb; have n0_ := Aside0.mk (below_step bwA hb); have n1_ := Aside0.mk (hbox); have n2_ := Aside0.mk ((by rw [hg]; exact (below_size bwA) : w.heap.size ≤ gb101)); have n3_ := Aside0.mk ((by rw [hg]; exact (below_size bwA) : w.heap.size ≤ gb101)); clear HB; have HB := n0_; have BK101 := n1_; have GW101 := n2_; have GE101 := n3_; clear n0_ n1_ n2_ n3_; clear hb hbox hg; have hcz16_0 : w15.cell? ⟨gb101, 0, none⟩ = some (.int .i64 a0_0) := (blk_cell BK101.out 0).trans rfl; have hcz16_1 : w15.cell? ⟨gb101, 1, none⟩ = some (.int .i64 a0_1) := (blk_cell BK101.out 1).trans rfl; have hcz16_2 : w15.cell? ⟨gb101, 2, none⟩ = some (.string a0_2) := (blk_cell BK101.out 2).trans rfl; have hfz16_0 := blk_frozen BK101.out 0; have hfz16_1 := blk_frozen BK101.out 1; have hfz16_2 := blk_frozen BK101.out 2) | (go_at_call 26; (with_reducible refine (utf8_ValidString.calls a0_2 t102 _ ?side1 A14.out).mono ?_); (case side1 => exact Tabs.below HT.out bwA); rintro e w17 ⟨rfl, hb⟩; have n0_ := Aside0.mk (blk_below (g := gb101) (o := .cells #[.int .i64 a0_0, .int .i64 a0_1, .string a0_2] 23 (0, 0)) blkA hb); have n1_ := Aside0.mk (below_step bwA hb); clear BK101; clear HB; have BK101 := n0_; have HB := n1_; clear n0_ n1_; (try clear hb); (try clear hb2); (try clear hk); (try clear hi)))
     go_ret
     exact ⟨by first | rfl | (simp [errW_none, errW_some] <;> rfl) | (simp [*, errW_none, errW_some] <;> rfl), by repeat (first | (with_reducible first | exact HB.out | apply below_alloc | apply pw_below_drewN | apply below_drew1 | refine below_set ?_ GE101.out) | exact HB.out)⟩
    ·rw [if_neg c13] at H
     have c13b0 : decide ((a0_2.size : Int) ≤ 200) = false := decide_eq_false c13
     have c13b1 : decide (a0_2.size ≤ 200) = false := decide_eq_false (by omega)
     clear c13
     obtain rfl := Option.some.inj H
     go_enter Tryz.func12, Tryz.ntmps12
     go_wp2_with (first | ((with_reducible refine gate_dst (N := 1) rfl ?_); (try (refine gate_guard (by rfl) ?_; dsimp only)); refine box_event ?hg (N := 1) ?hd (cs := #[.int .i64 a0_0, .int .i64 a0_1, .string a0_2]) (t := 23) ?hr ?_; (case hd => rfl); (case hg => rfl); (case hr => first | (go_simp; done) | (go_simp; rfl)); intro gb101 hg w18 hbox hb; have n0_ := Aside0.mk (below_step bwA hb); have n1_ := Aside0.mk (hbox); have n2_ := Aside0.mk ((by rw [hg]; exact (below_size bwA) : w.heap.size ≤ gb101)); have n3_ := Aside0.mk ((by rw [hg]; exact (below_size bwA) : w.heap.size ≤ gb101)); clear HB; have HB := n0_; have BK101 := n1_; have GW101 := n2_; have GE101 := n3_; clear n0_ n1_ n2_ n3_; clear hb hbox hg; have hcz19_0 : w18.cell? ⟨gb101, 0, none⟩ = some (.int .i64 a0_0) := (blk_cell BK101.out 0).trans rfl; have hcz19_1 : w18.cell? ⟨gb101, 1, none⟩ = some (.int .i64 a0_1) := (blk_cell BK101.out 1).trans rfl; have hcz19_2 : w18.cell? ⟨gb101, 2, none⟩ = some (.string a0_2) := (blk_cell BK101.out 2).trans rfl; have hfz19_0 := blk_frozen BK101.out 0; have hfz19_1 := blk_frozen BK101.out 1; have hfz19_2 := blk_frozen BK101.out 2))
     go_ret
     exact ⟨by first | rfl | (simp [errW_none, errW_some] <;> rfl) | (simp [*, errW_none, errW_some] <;> rfl), by repeat (first | (with_reducible first | exact HB.out | apply below_alloc | apply pw_below_drewN | apply below_drew1 | refine below_set ?_ GE101.out) | exact HB.out)⟩
   ·rw [if_neg c12] at H
    have c12b0 : (a0_1 == 0) = false := beq_eq_false_iff_ne.mpr c12
    have c12b1 : (a0_1 != 0) = true := bne_iff_ne.mpr c12
    obtain rfl := Option.some.inj H
    go_enter Tryz.func12, Tryz.ntmps12
    go_wp2_with (first | ((with_reducible refine gate_dst (N := 1) rfl ?_); (try (refine gate_guard (by rfl) ?_; dsimp only)); refine box_event ?hg (N := 1) ?hd (cs := #[.int .i64 a0_0, .int .i64 a0_1, .string a0_2]) (t := 23) ?hr ?_; (case hd => rfl); (case hg => rfl); (case hr => first | (go_simp; done) | (go_simp; rfl)); intro gb101 hg w20 hbox hb; have n0_ := Aside0.mk (below_step bwA hb); have n1_ := Aside0.mk (hbox); have n2_ := Aside0.mk ((by rw [hg]; exact (below_size bwA) : w.heap.size ≤ gb101)); have n3_ := Aside0.mk ((by rw [hg]; exact (below_size bwA) : w.heap.size ≤ gb101)); clear HB; have HB := n0_; have BK101 := n1_; have GW101 := n2_; have GE101 := n3_; clear n0_ n1_ n2_ n3_; clear hb hbox hg; have hcz21_0 : w20.cell? ⟨gb101, 0, none⟩ = some (.int .i64 a0_0) := (blk_cell BK101.out 0).trans rfl; have hcz21_1 : w20.cell? ⟨gb101, 1, none⟩ = some (.int .i64 a0_1) := (blk_cell BK101.out 1).trans rfl; have hcz21_2 : w20.cell? ⟨gb101, 2, none⟩ = some (.string a0_2) := (blk_cell BK101.out 2).trans rfl; have hfz21_0 := blk_frozen BK101.out 0; have hfz21_1 := blk_frozen BK101.out 1; have hfz21_2 := blk_frozen BK101.out 2))
    go_ret
    exact ⟨by first | rfl | (simp [errW_none, errW_some] <;> rfl) | (simp [*, errW_none, errW_some] <;> rfl), by repeat (first | (with_reducible first | exact HB.out | apply below_alloc | apply pw_below_drewN | apply below_drew1 | refine below_set ?_ GE101.out) | exact HB.out)⟩
  ·rw [if_neg c11] at H
   have c11b0 : (a0_0 == 2) = false := beq_eq_false_iff_ne.mpr c11
   have c11b1 : (a0_0 != 2) = true := bne_iff_ne.mpr c11
   by_cases c22 : a0_0 = 3
   ·rw [if_pos c22] at H
    have c22b0 : (a0_0 == 3) = true := beq_iff_eq.mpr c22
    have c22b1 : (a0_0 != 3) = false := bne_eq_false_iff_eq.mpr c22
    clear c22
    by_cases c23 : a0_1 = 0
    ·rw [if_pos c23] at H
     have c23b0 : (a0_1 == 0) = true := beq_iff_eq.mpr c23
     have c23b1 : (a0_1 != 0) = false := bne_eq_false_iff_eq.mpr c23
     clear c23
     obtain rfl := Option.some.inj H
     go_enter Tryz.func12, Tryz.ntmps12
     go_wp2_with (first | ((with_reducible refine gate_dst (N := 1) rfl ?_); (try (refine gate_guard (by rfl) ?_; dsimp only)); refine box_event ?hg (N := 1) ?hd (cs := #[.int .i64 a0_0, .int .i64 a0_1, .string a0_2]) (t := 23) ?hr ?_; (case hd => rfl); (case hg => rfl); (case hr => first | (go_simp; done) | (go_simp; rfl)); intro gb101 hg w24 hbox hb; have n0_ := Aside0.mk (below_step bwA hb); have n1_ := Aside0.mk (hbox); have n2_ := Aside0.mk ((by rw [hg]; exact (below_size bwA) : w.heap.size ≤ gb101)); have n3_ := Aside0.mk ((by rw [hg]; exact (below_size bwA) : w.heap.size ≤ gb101)); clear HB; have HB := n0_; have BK101 := n1_; have GW101 := n2_; have GE101 := n3_; clear n0_ n1_ n2_ n3_; clear hb hbox hg; have hcz25_0 : w24.cell? ⟨gb101, 0, none⟩ = some (.int .i64 a0_0) := (blk_cell BK101.out 0).trans rfl; have hcz25_1 : w24.cell? ⟨gb101, 1, none⟩ = some (.int .i64 a0_1) := (blk_cell BK101.out 1).trans rfl; have hcz25_2 : w24.cell? ⟨gb101, 2, none⟩ = some (.string a0_2) := (blk_cell BK101.out 2).trans rfl; have hfz25_0 := blk_frozen BK101.out 0; have hfz25_1 := blk_frozen BK101.out 1; have hfz25_2 := blk_frozen BK101.out 2))
     go_ret
     exact ⟨by first | rfl | (simp [errW_none, errW_some] <;> rfl) | (simp [*, errW_none, errW_some] <;> rfl), by repeat (first | (with_reducible first | exact HB.out | apply below_alloc | apply pw_below_drewN | apply below_drew1 | refine below_set ?_ GE101.out) | exact HB.out)⟩
    ·rw [if_neg c23] at H
     have c23b0 : (a0_1 == 0) = false := beq_eq_false_iff_ne.mpr c23
     have c23b1 : (a0_1 != 0) = true := bne_iff_ne.mpr c23
     by_cases c26 : a0_1 = 1
     ·rw [if_pos c26] at H
      have c26b0 : (a0_1 == 1) = true := beq_iff_eq.mpr c26
      have c26b1 : (a0_1 != 1) = false := bne_eq_false_iff_eq.mpr c26
      clear c26
      obtain rfl := Option.some.inj H
      go_enter Tryz.func12, Tryz.ntmps12
      go_wp2_with (first | ((with_reducible refine gate_dst (N := 1) rfl ?_); (try (refine gate_guard (by rfl) ?_; dsimp only)); refine box_event ?hg (N := 1) ?hd (cs := #[.int .i64 a0_0, .int .i64 a0_1, .string a0_2]) (t := 23) ?hr ?_; (case hd => rfl); (case hg => rfl); (case hr => first | (go_simp; done) | (go_simp; rfl)); intro gb101 hg w27 hbox hb; have n0_ := Aside0.mk (below_step bwA hb); have n1_ := Aside0.mk (hbox); have n2_ := Aside0.mk ((by rw [hg]; exact (below_size bwA) : w.heap.size ≤ gb101)); have n3_ := Aside0.mk ((by rw [hg]; exact (below_size bwA) : w.heap.size ≤ gb101)); clear HB; have HB := n0_; have BK101 := n1_; have GW101 := n2_; have GE101 := n3_; clear n0_ n1_ n2_ n3_; clear hb hbox hg; have hcz28_0 : w27.cell? ⟨gb101, 0, none⟩ = some (.int .i64 a0_0) := (blk_cell BK101.out 0).trans rfl; have hcz28_1 : w27.cell? ⟨gb101, 1, none⟩ = some (.int .i64 a0_1) := (blk_cell BK101.out 1).trans rfl; have hcz28_2 : w27.cell? ⟨gb101, 2, none⟩ = some (.string a0_2) := (blk_cell BK101.out 2).trans rfl; have hfz28_0 := blk_frozen BK101.out 0; have hfz28_1 := blk_frozen BK101.out 1; have hfz28_2 := blk_frozen BK101.out 2))
      go_ret
      exact ⟨by first | rfl | (simp [errW_none, errW_some] <;> rfl) | (simp [*, errW_none, errW_some] <;> rfl), by repeat (first | (with_reducible first | exact HB.out | apply below_alloc | apply pw_below_drewN | apply below_drew1 | refine below_set ?_ GE101.out) | exact HB.out)⟩
     ·rw [if_neg c26] at H
      have c26b0 : (a0_1 == 1) = false := beq_eq_false_iff_ne.mpr c26
      have c26b1 : (a0_1 != 1) = true := bne_iff_ne.mpr c26
      obtain rfl := Option.some.inj H
      go_enter Tryz.func12, Tryz.ntmps12
      go_wp2_with (first | ((with_reducible refine gate_dst (N := 1) rfl ?_); (try (refine gate_guard (by rfl) ?_; dsimp only)); refine box_event ?hg (N := 1) ?hd (cs := #[.int .i64 a0_0, .int .i64 a0_1, .string a0_2]) (t := 23) ?hr ?_; (case hd => rfl); (case hg => rfl); (case hr => first | (go_simp; done) | (go_simp; rfl)); intro gb101 hg w29 hbox hb; have n0_ := Aside0.mk (below_step bwA hb); have n1_ := Aside0.mk (hbox); have n2_ := Aside0.mk ((by rw [hg]; exact (below_size bwA) : w.heap.size ≤ gb101)); have n3_ := Aside0.mk ((by rw [hg]; exact (below_size bwA) : w.heap.size ≤ gb101)); clear HB; have HB := n0_; have BK101 := n1_; have GW101 := n2_; have GE101 := n3_; clear n0_ n1_ n2_ n3_; clear hb hbox hg; have hcz30_0 : w29.cell? ⟨gb101, 0, none⟩ = some (.int .i64 a0_0) := (blk_cell BK101.out 0).trans rfl; have hcz30_1 : w29.cell? ⟨gb101, 1, none⟩ = some (.int .i64 a0_1) := (blk_cell BK101.out 1).trans rfl; have hcz30_2 : w29.cell? ⟨gb101, 2, none⟩ = some (.string a0_2) := (blk_cell BK101.out 2).trans rfl; have hfz30_0 := blk_frozen BK101.out 0; have hfz30_1 := blk_frozen BK101.out 1; have hfz30_2 := blk_frozen BK101.out 2))
      go_ret
      exact ⟨by first | rfl | (simp [errW_none, errW_some] <;> rfl) | (simp [*, errW_none, errW_some] <;> rfl), by repeat (first | (with_reducible first | exact HB.out | apply below_alloc | apply pw_below_drewN | apply below_drew1 | refine below_set ?_ GE101.out) | exact HB.out)⟩
   ·rw [if_neg c22] at H
    have c22b0 : (a0_0 == 3) = false := beq_eq_false_iff_ne.mpr c22
    have c22b1 : (a0_0 != 3) = true := bne_iff_ne.mpr c22
    by_cases c31 : a0_0 = 4
    ·rw [if_pos c31] at H
     have c31b0 : (a0_0 == 4) = true := beq_iff_eq.mpr c31
     have c31b1 : (a0_0 != 4) = false := bne_eq_false_iff_eq.mpr c31
     clear c31
     by_cases c32 : a0_1 = 0
     ·rw [if_pos c32] at H
      have c32b0 : (a0_1 == 0) = true := beq_iff_eq.mpr c32
      have c32b1 : (a0_1 != 0) = false := bne_eq_false_iff_eq.mpr c32
      clear c32
      obtain rfl := Option.some.inj H
      go_enter Tryz.func12, Tryz.ntmps12
      go_wp2_with (first | ((with_reducible refine gate_dst (N := 1) rfl ?_); (try (refine gate_guard (by rfl) ?_; dsimp only)); refine box_event ?hg (N := 1) ?hd (cs := #[.int .i64 a0_0, .int .i64 a0_1, .string a0_2]) (t := 23) ?hr ?_; (case hd => rfl); (case hg => rfl); (case hr => first | (go_simp; done) | (go_simp; rfl)); intro gb101 hg w33 hbox hb; have n0_ := Aside0.mk (below_step bwA hb); have n1_ := Aside0.mk (hbox); have n2_ := Aside0.mk ((by rw [hg]; exact (below_size bwA) : w.heap.size ≤ gb101)); have n3_ := Aside0.mk ((by rw [hg]; exact (below_size bwA) : w.heap.size ≤ gb101)); clear HB; have HB := n0_; have BK101 := n1_; have GW101 := n2_; have GE101 := n3_; clear n0_ n1_ n2_ n3_; clear hb hbox hg; have hcz34_0 : w33.cell? ⟨gb101, 0, none⟩ = some (.int .i64 a0_0) := (blk_cell BK101.out 0).trans rfl; have hcz34_1 : w33.cell? ⟨gb101, 1, none⟩ = some (.int .i64 a0_1) := (blk_cell BK101.out 1).trans rfl; have hcz34_2 : w33.cell? ⟨gb101, 2, none⟩ = some (.string a0_2) := (blk_cell BK101.out 2).trans rfl; have hfz34_0 := blk_frozen BK101.out 0; have hfz34_1 := blk_frozen BK101.out 1; have hfz34_2 := blk_frozen BK101.out 2))
      go_ret
      exact ⟨by first | rfl | (simp [errW_none, errW_some] <;> rfl) | (simp [*, errW_none, errW_some] <;> rfl), by repeat (first | (with_reducible first | exact HB.out | apply below_alloc | apply pw_below_drewN | apply below_drew1 | refine below_set ?_ GE101.out) | exact HB.out)⟩
     ·rw [if_neg c32] at H
      have c32b0 : (a0_1 == 0) = false := beq_eq_false_iff_ne.mpr c32
      have c32b1 : (a0_1 != 0) = true := bne_iff_ne.mpr c32
      obtain rfl := Option.some.inj H
      go_enter Tryz.func12, Tryz.ntmps12
      go_wp2_with (first | ((with_reducible refine gate_dst (N := 1) rfl ?_); (try (refine gate_guard (by rfl) ?_; dsimp only)); refine box_event ?hg (N := 1) ?hd (cs := #[.int .i64 a0_0, .int .i64 a0_1, .string a0_2]) (t := 23) ?hr ?_; (case hd => rfl); (case hg => rfl); (case hr => first | (go_simp; done) | (go_simp; rfl)); intro gb101 hg w35 hbox hb; have n0_ := Aside0.mk (below_step bwA hb); have n1_ := Aside0.mk (hbox); have n2_ := Aside0.mk ((by rw [hg]; exact (below_size bwA) : w.heap.size ≤ gb101)); have n3_ := Aside0.mk ((by rw [hg]; exact (below_size bwA) : w.heap.size ≤ gb101)); clear HB; have HB := n0_; have BK101 := n1_; have GW101 := n2_; have GE101 := n3_; clear n0_ n1_ n2_ n3_; clear hb hbox hg; have hcz36_0 : w35.cell? ⟨gb101, 0, none⟩ = some (.int .i64 a0_0) := (blk_cell BK101.out 0).trans rfl; have hcz36_1 : w35.cell? ⟨gb101, 1, none⟩ = some (.int .i64 a0_1) := (blk_cell BK101.out 1).trans rfl; have hcz36_2 : w35.cell? ⟨gb101, 2, none⟩ = some (.string a0_2) := (blk_cell BK101.out 2).trans rfl; have hfz36_0 := blk_frozen BK101.out 0; have hfz36_1 := blk_frozen BK101.out 1; have hfz36_2 := blk_frozen BK101.out 2))
      go_ret
      exact ⟨by first | rfl | (simp [errW_none, errW_some] <;> rfl) | (simp [*, errW_none, errW_some] <;> rfl), by repeat (first | (with_reducible first | exact HB.out | apply below_alloc | apply pw_below_drewN | apply below_drew1 | refine below_set ?_ GE101.out) | exact HB.out)⟩
    ·rw [if_neg c31] at H
     have c31b0 : (a0_0 == 4) = false := beq_eq_false_iff_ne.mpr c31
     have c31b1 : (a0_0 != 4) = true := bne_iff_ne.mpr c31
     obtain rfl := Option.some.inj H
     go_enter Tryz.func12, Tryz.ntmps12
     go_wp2_with (first | ((with_reducible refine gate_dst (N := 1) rfl ?_); (try (refine gate_guard (by rfl) ?_; dsimp only)); refine box_event ?hg (N := 1) ?hd (cs := #[.int .i64 a0_0, .int .i64 a0_1, .string a0_2]) (t := 23) ?hr ?_; (case hd => rfl); (case hg => rfl); (case hr => first | (go_simp; done) | (go_simp; rfl)); intro gb101 hg w37 hbox hb; have n0_ := Aside0.mk (below_step bwA hb); have n1_ := Aside0.mk (hbox); have n2_ := Aside0.mk ((by rw [hg]; exact (below_size bwA) : w.heap.size ≤ gb101)); have n3_ := Aside0.mk ((by rw [hg]; exact (below_size bwA) : w.heap.size ≤ gb101)); clear HB; have HB := n0_; have BK101 := n1_; have GW101 := n2_; have GE101 := n3_; clear n0_ n1_ n2_ n3_; clear hb hbox hg; have hcz38_0 : w37.cell? ⟨gb101, 0, none⟩ = some (.int .i64 a0_0) := (blk_cell BK101.out 0).trans rfl; have hcz38_1 : w37.cell? ⟨gb101, 1, none⟩ = some (.int .i64 a0_1) := (blk_cell BK101.out 1).trans rfl; have hcz38_2 : w37.cell? ⟨gb101, 2, none⟩ = some (.string a0_2) := (blk_cell BK101.out 2).trans rfl; have hfz38_0 := blk_frozen BK101.out 0; have hfz38_1 := blk_frozen BK101.out 1; have hfz38_2 := blk_frozen BK101.out 2))
     go_ret
     exact ⟨by first | rfl | (simp [errW_none, errW_some] <;> rfl) | (simp [*, errW_none, errW_some] <;> rfl), by repeat (first | (with_reducible first | exact HB.out | apply below_alloc | apply pw_below_drewN | apply below_drew1 | refine below_set ?_ GE101.out) | exact HB.out)⟩

/-! ### strconv_Itoa: function 13, by hand -/
def strconv_Itoa.f (a0 : Int) : Option ByteArray := if -9223372036854775808 ≤ a0 ∧ a0 ≤ 9223372036854775807 then some ⟨(Lib.itoa a0).toArray⟩ else none
theorem strconv_Itoa.calls (a0 : Int) (r : ByteArray) (w : World) (hT : Tabs w) (h : strconv_Itoa.f a0 = some r) :
  Calls Tryz.prog 13 #[.int .i64 a0] w fun e w' => e = .returned (.string r) ∧ Below w.heap.size w w' := by
 unfold strconv_Itoa.f at h
 split at h
 ·rename_i hs
  obtain rfl := Option.some.inj h
  refine (Tryz.strconv_Itoa a0 hs.1 hs.2 w hT.pow).mono ?_
  rintro e w' ⟨he, k, os, rfl⟩
  exact ⟨he, Lib.below_grow _ w (Nat.le_refl _) k os⟩
 ·cases h

/-! ### strconv_FormatInt: function 47, by hand -/
def strconv_FormatInt.f (a0 : Int) (a1 : Int) : Option ByteArray := if a1 = 16 ∧ 0 ≤ a0 ∧ a0 < 256 then some (hexStr a0) else none
theorem pow2_16 (w : World) : Calls Tryz.prog 83 #[.int .i64 16] w fun e w' => e = .returned (.bool true) ∧ w' = w := by
 go_enter Tryz.func83, Tryz.ntmps83
 go_wp2
 go_ret
 exact ⟨rfl, rfl⟩
def digs : ByteArray := ⟨#[48, 49, 50, 51, 52, 53, 54, 55, 56, 57, 97, 98, 99, 100, 101, 102, 103, 104, 105, 106, 107, 108, 109, 110, 111, 112, 113, 114, 115, 116, 117, 118, 119, 120, 121, 122]⟩
theorem digs_at' : ∀ n : Fin 16, ((digs[n.val]'(by have := n.isLt; show n.val < 36; omega)).toNat : Int) = hexd n.val := by decide
theorem digs_at (n : Nat) (h : n < 16) (hp : n < digs.size) : ((digs[n]'hp).toNat : Int) = hexd n := digs_at' ⟨n, h⟩
theorem conv64 (w : World) (D : Int) : (convert 44 9 (.slice (some ⟨w.heap.size, 64, none⟩) 1 1)).run Tryz.prog (w.alloc (.cells (Tryz.zeroCells98.setIfInBounds 64 (.int .u8 D)) 98)) = .ok (.string (strOfNums [D])) (w.alloc (.cells (Tryz.zeroCells98.setIfInBounds 64 (.int .u8 D)) 98)) := by
 refine run_convert_bytes_arg _ 44 5 Tryz.underlying44 Tryz.underlying5 w.heap.size 64 1 1 [D] rfl (fun i hi => ?_) 9 Tryz.underlying9
 obtain rfl : i = 0 := by omega
 have hz : Tryz.zeroCells98.size = 65 := by kernel_rfl
 have hn := heap_alloc_new w (.cells (Tryz.zeroCells98.setIfInBounds 64 (.int .u8 D)) 98)
 exact (Lib.cell_of_heap hn (64 + 0)).trans (by simp [hz])
set_option maxRecDepth 100000 in
theorem formatBits16_lo (n : Nat) (h1 : n < 16) (w : World) (hT : Tabs w) :
  Calls Tryz.prog 66 #[.slice none 0 0, .int .u64 n, .int .i64 16, .bool false, .bool false] w fun e w' => e = .returned (.tuple #[.slice none 0 0, .string (hexStr n)]) ∧ Below w.heap.size w w' := by
 have h1z : (n : Int) < 16 := by omega
 have b1 : decide ((n : Int) ≥ 16) = false := decide_eq_false (by omega)
 have c2 : ∀ W, Tabs W → Calls Tryz.prog 84 #[.int .u64 16] W _ := fun W hW => Tryz.bits_TrailingZeros 16 (by omega) W (fun _ => hW.tz)
 have k4 : (Lib.ctz 64 16 : Int) = 4 := by decide
 rw [k4] at c2
 have hcv := fun D => conv64 w D
 go_enter Tryz.func66, Tryz.ntmps66
 go_wp2_with (first | (go_at_call 83; refine (pow2_16 _).mono ?_; rintro e w1 ⟨rfl, rfl⟩) | (go_at_call 84; refine (c2 _ (hT.below ((Below.refl _ _).alloc (Nat.le_refl _) _))).mono ?_; rintro e w1 ⟨rfl, rfl⟩))
 refine wp_loop_rounds 1 ?_
 rw [rounds_succ]
 go_wp2
 have hx : hexStr n = strOfNums [((digs[n]'(by show n < 36; omega)).toNat : Int)] := by
  unfold hexStr; rw [if_pos h1z, digs_at n h1]
 rw [hx]
 go_ret2
 exact ⟨rfl, (Below.refl _ _).alloc (Nat.le_refl _) _⟩
theorem conv63 (w : World) (D E : Int) : (convert 44 9 (.slice (some ⟨w.heap.size, 63, none⟩) 2 2)).run Tryz.prog (w.alloc (.cells ((Tryz.zeroCells98.setIfInBounds 64 (.int .u8 D)).setIfInBounds 63 (.int .u8 E)) 98)) = .ok (.string (strOfNums [E, D])) (w.alloc (.cells ((Tryz.zeroCells98.setIfInBounds 64 (.int .u8 D)).setIfInBounds 63 (.int .u8 E)) 98)) := by
 refine run_convert_bytes_arg _ 44 5 Tryz.underlying44 Tryz.underlying5 w.heap.size 63 2 2 [E, D] rfl (fun i hi => ?_) 9 Tryz.underlying9
 have hz : Tryz.zeroCells98.size = 65 := by kernel_rfl
 have hn := heap_alloc_new w (.cells ((Tryz.zeroCells98.setIfInBounds 64 (.int .u8 D)).setIfInBounds 63 (.int .u8 E)) 98)
 obtain rfl | rfl : i = 0 ∨ i = 1 := by omega
 ·exact (Lib.cell_of_heap hn (63 + 0)).trans (by simp [hz])
 ·exact (Lib.cell_of_heap hn (63 + 1)).trans (by simp [hz])
set_option maxRecDepth 100000 in
theorem formatBits16_hi (n p q : Nat) (hn : n = 16 * p + q) (hp0 : 0 < p) (hp : p < 16) (hq : q < 16) (w : World) (hT : Tabs w) :
  Calls Tryz.prog 66 #[.slice none 0 0, .int .u64 n, .int .i64 16, .bool false, .bool false] w fun e w' => e = .returned (.tuple #[.slice none 0 0, .string (strOfNums [hexd p, hexd q])]) ∧ Below w.heap.size w w' := by
 have b1 : decide ((n : Int) ≥ 16) = true := decide_eq_true (by omega)
 have b2 : decide ((p : Int) ≥ 16) = false := decide_eq_false (by omega)
 have c2 : ∀ W, Tabs W → Calls Tryz.prog 84 #[.int .u64 16] W _ := fun W hW => Tryz.bits_TrailingZeros 16 (by omega) W (fun _ => hW.tz)
 have k4 : (Lib.ctz 64 16 : Int) = 4 := by decide
 rw [k4] at c2
 have hcv := fun D E => conv63 w D E
 have ha : bits .and .u64 (n : Int) 15 = (q : Int) := by
  rw [show ((15 : Int)) = ((15 : Nat) : Int) from rfl, u64_and_nat n 15 (by omega) (by omega), show n &&& 15 = n % 16 from Nat.and_two_pow_sub_one_eq_mod n 4]
  omega
 have hs : (n : Int) / 16 = (p : Int) := by omega
 have hpz : (p : Int) < 36 := by omega
 have hqz : (q : Int) < 36 := by omega
 have hp36 : p < 36 := by omega
 have hq36 : q < 36 := by omega
 clear hn
 go_enter Tryz.func66, Tryz.ntmps66
 go_wp2_with (first | (go_at_call 83; refine (pow2_16 _).mono ?_; rintro e w1 ⟨rfl, rfl⟩) | (go_at_call 84; refine (c2 _ (hT.below ((Below.refl _ _).alloc (Nat.le_refl _) _))).mono ?_; rintro e w1 ⟨rfl, rfl⟩))
 refine wp_loop_rounds 2 ?_
 rw [rounds_succ]
 go_wp2
 rw [rounds_succ]
 go_wp2
 have hx : strOfNums [hexd p, hexd q] = strOfNums [((digs[p]'hp36).toNat : Int), ((digs[q]'hq36).toNat : Int)] := by
  rw [digs_at p hp hp36, digs_at q hq hq36]
 rw [hx]
 go_ret2
 exact ⟨rfl, (Below.refl _ _).alloc (Nat.le_refl _) _⟩
theorem formatBits16 (n : Nat) (h1 : n < 256) (w : World) (hT : Tabs w) :
  Calls Tryz.prog 66 #[.slice none 0 0, .int .u64 n, .int .i64 16, .bool false, .bool false] w fun e w' => e = .returned (.tuple #[.slice none 0 0, .string (hexStr n)]) ∧ Below w.heap.size w w' := by
 by_cases h : n < 16
 ·exact formatBits16_lo n h w hT
 ·have e : hexStr n = strOfNums [hexd (n / 16 : Nat), hexd (n % 16 : Nat)] := by
   unfold hexStr; rw [if_neg (by omega)]
   exact congrArg strOfNums (by congr 1)
  rw [e]
  exact formatBits16_hi n (n / 16) (n % 16) (by omega) (by omega) (by omega) (by omega) w hT
theorem strconvFormatInt16 (n : Nat) (h1 : n < 256) (w : World) (hT : Tabs w) :
  Calls Tryz.prog 45 #[.int .i64 n, .int .i64 16] w fun e w' => e = .returned (.string (hexStr n)) ∧ Below w.heap.size w w' := by
 have b1 : decide ((n : Int) < 0) = false := decide_eq_false (by omega)
 have cF := formatBits16 n h1 w hT
 generalize hexStr n = E at cF ⊢
 go_enter Tryz.func45, Tryz.ntmps45
 go_wp2_with (go_at_call 66; refine cF.mono ?_; rintro e w1 ⟨rfl, hb⟩)
 go_ret
 exact ⟨rfl, hb⟩
theorem strconv_FormatInt.calls (a0 : Int) (a1 : Int) (r : ByteArray) (w : World) (hT : Tabs w) (h : strconv_FormatInt.f a0 a1 = some r) :
  Calls Tryz.prog 47 #[.int .i64 a0, .int .i64 a1] w fun e w' => e = .returned (.string r) ∧ Below w.heap.size w w' := by
 unfold strconv_FormatInt.f at h
 split at h
 ·rename_i hs
  obtain rfl := Option.some.inj h
  obtain ⟨rfl, h0, h1⟩ := hs
  obtain ⟨n, rfl⟩ := Int.eq_ofNat_of_zero_le h0
  have cF := strconvFormatInt16 n (by omega) w hT
  clear h h0
  generalize hexStr n = E at cF ⊢
  go_enter Tryz.func47, Tryz.ntmps47
  go_wp2_with (go_at_call 45; refine cF.mono ?_; rintro e w1 ⟨rfl, hb⟩)
  go_ret
  exact ⟨rfl, hb⟩
 ·cases h

/-! ### value_escape: function 30, by hand -/
def value_escape.f (a0 : Int) : Option ByteArray := if 0 ≤ a0 then some (escB a0) else none
theorem value_escape.calls (a0 : Int) (r : ByteArray) (w : World) (hT : Tabs w) (h : value_escape.f a0 = some r) :
  Calls Tryz.prog 30 #[.int .i32 a0] w fun e w' => e = .returned (.string r) ∧ Below w.heap.size w w' := by
 unfold value_escape.f at h
 split at h
 ·rename_i h0
  obtain rfl := Option.some.inj h
  clear h
  have hs4 := encode_le4 a0
  have hs2 := hexStr_size a0
  by_cases e1 : a0 = 34
  ·subst e1
   go_enter Tryz.func30, Tryz.ntmps30
   go_wp2
   go_ret
   exact ⟨rfl, Below.refl _ _⟩
  by_cases e2 : a0 = 92
  ·subst e2
   go_enter Tryz.func30, Tryz.ntmps30
   go_wp2
   go_ret
   exact ⟨rfl, Below.refl _ _⟩
  by_cases e3 : a0 = 10
  ·subst e3
   go_enter Tryz.func30, Tryz.ntmps30
   go_wp2
   go_ret
   exact ⟨rfl, Below.refl _ _⟩
  by_cases e4 : a0 = 9
  ·subst e4
   go_enter Tryz.func30, Tryz.ntmps30
   go_wp2
   go_ret
   exact ⟨rfl, Below.refl _ _⟩
  by_cases e5 : a0 = 13
  ·subst e5
   go_enter Tryz.func30, Tryz.ntmps30
   go_wp2
   go_ret
   exact ⟨rfl, Below.refl _ _⟩
  have b1 : (a0 == 34) = false := beq_eq_false_iff_ne.2 e1
  have b2 : (a0 == 92) = false := beq_eq_false_iff_ne.2 e2
  have b3 : (a0 == 10) = false := beq_eq_false_iff_ne.2 e3
  have b4 : (a0 == 9) = false := beq_eq_false_iff_ne.2 e4
  have b5 : (a0 == 13) = false := beq_eq_false_iff_ne.2 e5
  by_cases h6 : a0 < 32 ∨ a0 = 127
  ·have he : escB a0 = (⟨#[92, 117, 123]⟩ : ByteArray) ++ hexStr a0 ++ (⟨#[125]⟩ : ByteArray) := by
    unfold escB; rw [if_neg (by omega), if_neg e3, if_neg e4, if_neg e5, if_pos h6]
   rw [he]
   clear he
   have cF : ∀ W, Tabs W → Calls Tryz.prog 47 #[.int .i64 a0, .int .i64 16] W _ := fun W hW => strconv_FormatInt.calls a0 16 (hexStr a0) W hW (by unfold strconv_FormatInt.f; rw [if_pos ⟨rfl, h0, by omega⟩])
   generalize hexStr a0 = E at hs2 cF ⊢
   clear e1 e2 e3 e4 e5
   by_cases h7 : a0 < 32
   ·have b6 : decide (a0 < 32) = true := decide_eq_true h7
    clear h6
    go_enter Tryz.func30, Tryz.ntmps30
    go_wp2_with (go_at_call 47; refine (cF _ hT).mono ?_; rintro e w1 ⟨rfl, hb⟩)
    go_ret
    exact ⟨rfl, hb⟩
   ·have b6 : decide (a0 < 32) = false := decide_eq_false h7
    obtain rfl : a0 = 127 := by omega
    clear h6
    go_enter Tryz.func30, Tryz.ntmps30
    go_wp2_with (go_at_call 47; refine (cF _ hT).mono ?_; rintro e w1 ⟨rfl, hb⟩)
    go_ret
    exact ⟨rfl, hb⟩
  ·have b6 : decide (a0 < 32) = false := decide_eq_false (by omega)
   have b7 : (a0 == 127) = false := beq_eq_false_iff_ne.2 (by omega)
   have he : escB a0 = Utf8.encode a0 := by
    unfold escB; rw [if_neg (by omega), if_neg e3, if_neg e4, if_neg e5, if_neg h6]
   rw [he]
   clear he e1 e2 e3 e4 e5 h6
   go_enter Tryz.func30, Tryz.ntmps30
   go_wp2
   go_ret
   exact ⟨rfl, Below.refl _ _⟩
 ·cases h

/-! ### value_quoted: function 14, by hand -/
def quotedFrom (s : ByteArray) : Nat → Nat → List UInt8
 | 0, _ => []
 | f + 1, pos => if pos < s.size then (escB (Utf8.decode s pos).1).data.toList ++ quotedFrom s f (pos + (Utf8.decode s pos).2) else []
theorem quotedFrom_end (s : ByteArray) (fuel pos : Nat) (h : ¬ pos < s.size) : quotedFrom s fuel pos = [] := by
 cases fuel with
 | zero => rfl
 | succ f => simp [quotedFrom, h]
theorem escB_le (c : Int) : (escB c).size ≤ 6 := by
 have h4 := encode_le4 c
 have h2 := hexStr_size c
 unfold escB
 repeat' split
 all_goals first | (simp only [ByteArray.size_append]; show 1 + _ ≤ 6; omega) | (simp only [ByteArray.size_append]; show 3 + _ + 1 ≤ 6; omega) | (show (2 : Nat) ≤ 6; omega) | omega
def value_quoted.f (a0 : ByteArray) : Option ByteArray := if a0.size ≤ 1099511627776 then some ⟨(34 :: (quotedFrom a0 a0.size 0 ++ [34])).toArray⟩ else none
set_option maxHeartbeats 4000000 in
set_option maxRecDepth 100000 in
theorem value_quoted.calls (a0 : ByteArray) (r : ByteArray) (w : World) (hT : Tabs w) (h : value_quoted.f a0 = some r) :
  Calls Tryz.prog 14 #[.string a0] w fun e w' => e = .returned (.string r) ∧ Below w.heap.size w w' := by
 unfold value_quoted.f at h
 split at h
 ·rename_i hs
  obtain rfl := Option.some.inj h
  clear h
  have hw0 : ∀ W : World, Below w.heap.size w W → Tabs W := fun W hb => hT.below hb
  go_enter Tryz.func14, Tryz.ntmps14
  go_wp2_with fail
  refine (Tryz.Bld_WriteByte w.heap.size w.heap.size [] 34 _ (Lib.IsBuilderF.of (Lib.fresh_isBuilder 49 5 w)) (by simp) (by simp)).mono ?_
  rintro e W1 ⟨rfl, h1, b1, k1⟩
  have bw1 : Below w.heap.size w W1 := ((Below.refl _ w).alloc (Nat.le_refl _) _).trans b1
  have I1 : Lib.IsBuilderF 49 5 w.heap.size w.heap.size (Lib.byteCells [34]) W1 := Or.inr h1
  clear h1 b1 k1
  go_wp2_with fail
  go_loopw [] (fun wr => ∃ (pos fuel : Nat) (acc : List UInt8), Lib.IsBuilderF 49 5 w.heap.size w.heap.size (Lib.byteCells acc) wr ∧ wr.heap[W1.heap.size]? = some (.stringIter a0 pos) ∧ Below w.heap.size w wr ∧ acc ++ quotedFrom a0 fuel pos = 34 :: quotedFrom a0 a0.size 0 ∧ a0.size ≤ pos + fuel ∧ acc.length + 6 * fuel ≤ 1 + 6 * a0.size) (fun wr => a0.size - wr.iterPos W1.heap.size)
  case atStart =>
   refine ⟨0, a0.size, [34], I1.alloc _, World.iter_heap W1 a0 0, bw1.alloc bw1.size _, rfl, by omega, by simp⟩
  case round =>
   obtain ⟨pos, fuel, acc, hI, hit, hbw, hacc, hfu, hal⟩ := hrel
   have hsz : W1.heap.size < wr.heap.size := (Array.getElem?_eq_some_iff.1 hit).1
   have hsw : w.heap.size ≤ W1.heap.size := bw1.size
   have hne : W1.heap.size ≠ w.heap.size := by
    intro e1
    rcases I1 with ⟨_, v, hb, _⟩ | ⟨_, v, hb, _⟩
    all_goals (have := (Array.getElem?_eq_some_iff.1 hb).1; omega)
   by_cases hp : pos < a0.size
   ·have hnx : ∀ ty, (Instr.next (.pointer (some ⟨W1.heap.size, 0, none⟩)) true ty).run Tryz.prog wr = _ := fun ty => Lib.run_next_any_at wr W1.heap.size a0 pos ty hit hp
    have hwd := Lib.width_pos a0 pos
    have hd1 := decode_le a0 pos
    have hI2 := hI.iterAt hit (pos + (Utf8.decode a0 pos).2)
    have hit2 := Lib.iterAt_heap wr W1.heap.size a0 pos (pos + (Utf8.decode a0 pos).2) hit
    have hbw2 := Lib.below_iterAt hbw (k := W1.heap.size) hsw a0 (pos + (Utf8.decode a0 pos).2)
    have hsz2 : w.heap.size ≤ (wr.iterAt W1.heap.size a0 (pos + (Utf8.decode a0 pos).2)).heap.size := by rw [Lib.iterAt_size]; omega
    obtain ⟨f, rfl⟩ : ∃ f, fuel = f + 1 := ⟨fuel - 1, by omega⟩
    have hq : quotedFrom a0 (f + 1) pos = (escB (Utf8.decode a0 pos).1).data.toList ++ quotedFrom a0 f (pos + (Utf8.decode a0 pos).2) := by rw [quotedFrom, if_pos hp]
    have hle := escB_le ((Utf8.decode a0 pos).1 : Int)
    have cE := fun W hW => value_escape.calls ((Utf8.decode a0 pos).1 : Int) (escB (Utf8.decode a0 pos).1) W hW (by unfold value_escape.f; rw [if_pos (by omega)])
    generalize escB ((Utf8.decode a0 pos).1 : Int) = E at hq hle cE
    have Hq := Lib.hid hq
    clear hq
    go_wp2_with fail
    refine (cE _ (hw0 _ hbw2)).mono ?_
    rintro e W2 ⟨rfl, hb2⟩
    have hI3 := builderF_below hI2 hb2
    have hit3 := heap_below hit2 hb2
    have hbw3 : Below w.heap.size w W2 := hbw2.trans (hb2.mono hsz2)
    have hsz3 : w.heap.size ≤ W2.heap.size := Nat.le_trans hsz2 hb2.size
    clear hI2 hbw2 cE hnx
    go_wp2_with fail
    refine (Tryz.Bld_WriteString w.heap.size w.heap.size _ E _ hI3 (by rw [Lib.byteCells_length]; omega) hsz3).mono ?_
    rintro e W3 ⟨rfl, h1, b1, k1⟩
    have hit4 := k1.iter hit3 hne
    go_wp2
    go_roundw
    case rel =>
     refine ⟨pos + (Utf8.decode a0 pos).2, f, acc ++ E.data.toList, ?_, hit4, hbw3.trans b1, ?_, by omega, ?_⟩
     ·rw [Lib.byteCells_append, ← strCells_mk]; exact Or.inr h1
     ·rw [← hacc, Hq.out, List.append_assoc]
     ·have : E.data.toList.length = E.size := by rw [Array.length_toList]; rfl
      simp only [List.length_append, this]; omega
    case measure =>
     simp only [World.iterPos, hit4, hit]
     omega
   ·have hnx : ∀ ty, (Instr.next (.pointer (some ⟨W1.heap.size, 0, none⟩)) true ty).run Tryz.prog wr = _ := fun ty => Lib.run_next_end_at wr W1.heap.size a0 pos ty hit hp
    rw [quotedFrom_end a0 fuel pos hp, List.append_nil] at hacc
    have hsz3 : w.heap.size ≤ wr.heap.size := by omega
    have Hacc := Lib.hid hacc
    clear hacc
    go_wp2_with fail
    refine (Tryz.Bld_WriteByte w.heap.size w.heap.size _ 34 _ hI (by rw [Lib.byteCells_length]; omega) hsz3).mono ?_
    rintro e W3 ⟨rfl, h1, b1, k1⟩
    have I3 : Lib.IsBuilderF 49 5 w.heap.size w.heap.size (Lib.byteCells (acc ++ [34])) W3 := by
     rw [Lib.byteCells_append]; exact Or.inr h1
    have hb3 := hbw.trans b1
    clear h1 k1
    go_wp2_with fail
    refine (Tryz.Builder_String_any_k w.heap.size w.heap.size (acc ++ [34]) _ I3 (Nat.le_trans hsz3 b1.size)).mono ?_
    rintro e W4 ⟨rfl, _, b4, _⟩
    go_wp2
    go_ret
    rw [Hacc.out]
    exact ⟨rfl, hb3.trans b4⟩
 ·cases h

/-! ### strconv_FormatBool_32: function 32 -/
def strconv_FormatBool_32.f (a0 : Bool) : Option (ByteArray) := if a0 = true then (some (⟨#[116, 114, 117, 101]⟩ : ByteArray)) else (some (⟨#[102, 97, 108, 115, 101]⟩ : ByteArray))
set_option maxHeartbeats 8000000 in
set_option maxRecDepth 100000 in
theorem strconv_FormatBool_32.calls (a0 : Bool) (r : ByteArray) (w : World) (h : strconv_FormatBool_32.f a0 = some r) :
  Calls Tryz.prog 32 #[.bool a0] w fun e w' => e = .returned (.string r) ∧ Drawn0 w w' := by
 have H : (if a0 = true then (some (⟨#[116, 114, 117, 101]⟩ : ByteArray)) else (some (⟨#[102, 97, 108, 115, 101]⟩ : ByteArray))) = some r := h
 clear h
 by_cases c2 : a0 = true
 ·subst c2
  have H1 : (some (⟨#[116, 114, 117, 101]⟩ : ByteArray)) = some r := by rw [if_pos rfl] at H; exact H
  clear H
  have H := H1
  clear H1
  obtain rfl := Option.some.inj H
  go_enter Tryz.func32, Tryz.ntmps32
  go_wp2
  go_ret
  exact ⟨by first | rfl | (simp; done) | (simp [*]; done) | (simp [wrap64]; done), by repeat (first | exact Drawn0.refl _ | apply Drawn0.step)⟩
 ·replace c2 := Bool.eq_false_iff.mpr c2
  subst c2
  have H1 : (some (⟨#[102, 97, 108, 115, 101]⟩ : ByteArray)) = some r := by rw [if_neg (show ¬ (false = true) by decide)] at H; exact H
  clear H
  have H := H1
  clear H1
  obtain rfl := Option.some.inj H
  go_enter Tryz.func32, Tryz.ntmps32
  go_wp2
  go_ret
  exact ⟨by first | rfl | (simp; done) | (simp [*]; done) | (simp [wrap64]; done), by repeat (first | exact Drawn0.refl _ | apply Drawn0.step)⟩

/-! ### strconv_FormatBool_15: function 15 -/
def strconv_FormatBool_15.f (a0 : Bool) : Option (ByteArray) := (strconv_FormatBool_32.f a0).bind fun t103 => (some t103)
set_option maxHeartbeats 8000000 in
set_option maxRecDepth 100000 in
theorem strconv_FormatBool_15.calls (a0 : Bool) (r : ByteArray) (w : World) (h : strconv_FormatBool_15.f a0 = some r) :
  Calls Tryz.prog 15 #[.bool a0] w fun e w' => e = .returned (.string r) ∧ Drawn0 w w' := by
 have H : ((strconv_FormatBool_32.f a0).bind fun t103 => (some t103)) = some r := h
 clear h
 replace H := Option.bind_eq_some_iff.mp H
 obtain ⟨t103, A20, H⟩ := H
 replace H : (some t103) = some r := H
 have A2 := Aside0.mk A20
 clear A20
 obtain rfl := Option.some.inj H
 go_enter Tryz.func15, Tryz.ntmps15
 go_wp2_with (first | ((with_reducible refine gate_callee (f := 32) rfl ?_); refine goesA (some 4) Tryz.func32 #[.bool a0] ?_; (with_reducible refine (strconv_FormatBool_32.calls a0 t103 _ A2.out).mono ?_); rintro e w' ⟨rfl, ⟨nd, rfl⟩⟩; refine ⟨_, rfl, ?_⟩))
 go_ret
 exact ⟨by first | rfl | (simp; done) | (simp [*]; done) | (simp [wrap64]; done), by repeat (first | exact Drawn0.refl _ | apply Drawn0.step)⟩

end Go.Proofs.YtoajlmmkkcelgaaGreatDoor.A
