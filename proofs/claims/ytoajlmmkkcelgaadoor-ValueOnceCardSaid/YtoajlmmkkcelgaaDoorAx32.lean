-- By drv.py, the session's own driver round the kit's print: the machine's side of the laws, function by function. Not trusted: Lean checks it.
import Derived.Test.YtoajlmmkkcelgaaDoorAx0
import Derived.Test.YtoajlmmkkcelgaaDoorAx11
import Derived.Test.YtoajlmmkkcelgaaDoorAx12
import Derived.Test.YtoajlmmkkcelgaaDoorAx13
import Derived.Test.YtoajlmmkkcelgaaDoorAx14
import Derived.Test.YtoajlmmkkcelgaaDoorAx22
import Derived.Test.YtoajlmmkkcelgaaDoorAx25
namespace Go.Proofs.YtoajlmmkkcelgaaDoor.A
open Go.RowKit Go.Proofs.YtoajlmmkkcelgaaDoorW.PrintWords Go.Proofs.YtoajlmmkkcelgaaDoorW.PrintLast Go.Proofs.YtoajlmmkkcelgaaDoorW.PrintMore
attribute [local go_sem] max2_int min2_int max_two min_two max_three min_three max_four min_four   -- for this text's walks alone
set_option linter.unusedVariables false
set_option linter.unusedSimpArgs false

/-! ### caduceuslaw03_ValueOnce: function 14 -/
def caduceuslaw03_ValueOnce.j0 : Nat → ByteArray → Bool → Option (Bool)
 | 0, _, _ => none
 | k + 1, x0, x33 => if x33 = true then (none) else ((value_Read.f k x0).bind fun bt544 => ((caduceuslaw03_awake.f k).bind fun t550 => (if t550 = true then (if bt544.2.2.2.2 = 0 then ((value_Check.f bt544.1 bt544.2.1 bt544.2.2.1).bind fun t551 => (if t551 = true then ((value_Text.f k bt544.1 bt544.2.1 bt544.2.2.1).bind fun t552 => (if t552.size + bt544.2.2.2.1.size ≤ 9223372036854775807 then (some ((t552 ++ bt544.2.2.2.1).toList == x0.toList)) else (none))) else (none))) else (some true)) else (none))))
def caduceuslaw03_ValueOnce.f (k : Nat) (a0 : ByteArray) : Option (Bool) := (caduceuslaw03_few.f a0).bind fun t534 => (if t534 = true then ((value_Scan.f k a0).bind fun bt536 => (if bt536.2.2.2.2 = 0 then ((value_Check.f bt536.1 bt536.2.1 bt536.2.2.1).bind fun t542 => (if t542 = true then ((value_Show.f k bt536.1 bt536.2.1 bt536.2.2.1).bind fun t543 => (if t543.size + bt536.2.2.2.1.size ≤ 9223372036854775807 then (caduceuslaw03_ValueOnce.j0 k a0 ((t543 ++ bt536.2.2.2.1).toList != a0.toList)) else (none))) else (caduceuslaw03_ValueOnce.j0 k a0 true))) else (caduceuslaw03_ValueOnce.j0 k a0 false))) else ((caduceuslaw03_awake.f k).bind fun t535 => (some t535)))
theorem caduceuslaw03_ValueOnce.mono_l : ∀ k, (∀ y0 y1, LeO (caduceuslaw03_ValueOnce.j0 k y0 y1) (caduceuslaw03_ValueOnce.j0 (k + 1) y0 y1))
 | 0 => fun _ _ r h => by simp [caduceuslaw03_ValueOnce.j0] at h
 | k + 1 => by
  have ih0 := caduceuslaw03_ValueOnce.mono_l k
  ·intro y0 y1
   unfold caduceuslaw03_ValueOnce.j0
   repeat' first
   | (with_reducible exact ih0 _ _)
   | (with_reducible exact caduceuslaw03_awake.mono _)
   | (with_reducible exact value_Read.mono _ _)
   | (with_reducible exact value_Scan.mono _ _)
   | (with_reducible exact value_Show.mono _ _ _ _)
   | (with_reducible exact value_Text.mono _ _ _ _)
   | (with_reducible exact LeO.refl _)
   | (with_reducible exact LeO.none _)
   | (with_reducible refine LeO.ite ?_ ?_)
   | (with_reducible refine LeO.bind ?_ (fun _ => ?_))
   | exact ih0 _ _
   | exact caduceuslaw03_awake.mono _
   | exact value_Read.mono _ _
   | exact value_Scan.mono _ _
   | exact value_Show.mono _ _ _ _
   | exact value_Text.mono _ _ _ _
   | exact LeO.none _
   | refine LeO.ite ?_ ?_
   | refine LeO.bind ?_ (fun _ => ?_)
theorem caduceuslaw03_ValueOnce.mono : ∀ a0 k, LeO (caduceuslaw03_ValueOnce.f k a0) (caduceuslaw03_ValueOnce.f (k + 1) a0) := by
 intro a0 k
 have ih0 := caduceuslaw03_ValueOnce.mono_l k
 unfold caduceuslaw03_ValueOnce.f
 repeat' first
   | (with_reducible exact ih0 _ _)
   | (with_reducible exact caduceuslaw03_awake.mono _)
   | (with_reducible exact value_Read.mono _ _)
   | (with_reducible exact value_Scan.mono _ _)
   | (with_reducible exact value_Show.mono _ _ _ _)
   | (with_reducible exact value_Text.mono _ _ _ _)
   | (with_reducible exact LeO.refl _)
   | (with_reducible exact LeO.none _)
   | (with_reducible refine LeO.ite ?_ ?_)
   | (with_reducible refine LeO.bind ?_ (fun _ => ?_))
   | exact ih0 _ _
   | exact caduceuslaw03_awake.mono _
   | exact value_Read.mono _ _
   | exact value_Scan.mono _ _
   | exact value_Show.mono _ _ _ _
   | exact value_Text.mono _ _ _ _
   | exact LeO.none _
   | refine LeO.ite ?_ ?_
   | refine LeO.bind ?_ (fun _ => ?_)
set_option maxHeartbeats 8000000 in
set_option maxRecDepth 100000 in
theorem caduceuslaw03_ValueOnce.calls (k : Nat) (a0 : ByteArray) (r : Bool) (w : World) (hT : Tabs w) (h : caduceuslaw03_ValueOnce.f k a0 = some r) :
  Calls Tryd.prog 14 #[.string a0] w fun e w' => e = .returned (.bool r) ∧ Below w.heap.size w w' := by
 have hu25 := Tryd.underlying25
 have HB := Aside0.mk (Below.refl w.heap.size w)
 have H : ((caduceuslaw03_few.f a0).bind fun t534 => (if t534 = true then ((value_Scan.f k a0).bind fun bt536 => (if bt536.2.2.2.2 = 0 then ((value_Check.f bt536.1 bt536.2.1 bt536.2.2.1).bind fun t542 => (if t542 = true then ((value_Show.f k bt536.1 bt536.2.1 bt536.2.2.1).bind fun t543 => (if t543.size + bt536.2.2.2.1.size ≤ 9223372036854775807 then (caduceuslaw03_ValueOnce.j0 k a0 ((t543 ++ bt536.2.2.2.1).toList != a0.toList)) else (none))) else (caduceuslaw03_ValueOnce.j0 k a0 true))) else (caduceuslaw03_ValueOnce.j0 k a0 false))) else ((caduceuslaw03_awake.f k).bind fun t535 => (some t535)))) = some r := h
 clear h
 have HT := Aside0.mk hT
 clear hT
 replace H := Option.bind_eq_some_iff.mp H
 obtain ⟨t534, A20, H⟩ := H
 replace H : (if t534 = true then ((value_Scan.f k a0).bind fun bt536 => (if bt536.2.2.2.2 = 0 then ((value_Check.f bt536.1 bt536.2.1 bt536.2.2.1).bind fun t542 => (if t542 = true then ((value_Show.f k bt536.1 bt536.2.1 bt536.2.2.1).bind fun t543 => (if t543.size + bt536.2.2.2.1.size ≤ 9223372036854775807 then (caduceuslaw03_ValueOnce.j0 k a0 ((t543 ++ bt536.2.2.2.1).toList != a0.toList)) else (none))) else (caduceuslaw03_ValueOnce.j0 k a0 true))) else (caduceuslaw03_ValueOnce.j0 k a0 false))) else ((caduceuslaw03_awake.f k).bind fun t535 => (some t535))) = some r := H
 have A2 := Aside0.mk A20
 clear A20
 by_cases c3 : t534 = true
 ·subst c3
  have H1 : ((value_Scan.f k a0).bind fun bt536 => (if bt536.2.2.2.2 = 0 then ((value_Check.f bt536.1 bt536.2.1 bt536.2.2.1).bind fun t542 => (if t542 = true then ((value_Show.f k bt536.1 bt536.2.1 bt536.2.2.1).bind fun t543 => (if t543.size + bt536.2.2.2.1.size ≤ 9223372036854775807 then (caduceuslaw03_ValueOnce.j0 k a0 ((t543 ++ bt536.2.2.2.1).toList != a0.toList)) else (none))) else (caduceuslaw03_ValueOnce.j0 k a0 true))) else (caduceuslaw03_ValueOnce.j0 k a0 false))) = some r := by rw [if_pos rfl] at H; exact H
  clear H
  have H := H1
  clear H1
  replace H := Option.bind_eq_some_iff.mp H
  obtain ⟨⟨t536, t537, t538, t539, t540⟩, A40, H⟩ := H
  replace H : (if t540 = 0 then ((value_Check.f t536 t537 t538).bind fun t542 => (if t542 = true then ((value_Show.f k t536 t537 t538).bind fun t543 => (if t543.size + t539.size ≤ 9223372036854775807 then (caduceuslaw03_ValueOnce.j0 k a0 ((t543 ++ t539).toList != a0.toList)) else (none))) else (caduceuslaw03_ValueOnce.j0 k a0 true))) else (caduceuslaw03_ValueOnce.j0 k a0 false)) = some r := H
  have A4 := Aside0.mk A40
  clear A40
  have HC5 := Aside0.mk H
  clear H
  go_enter Tryd.func14, Tryd.ntmps14
  go_upto_region 4 with (first | ((with_reducible refine gate_callee (f := 15) rfl ?_); refine goesA (some 10) Tryd.func15 #[.string a0] ?_; (with_reducible refine (caduceuslaw03_few.calls a0 true _ A2.out).mono ?_); rintro e w' ⟨rfl, ⟨nd, rfl⟩⟩; refine ⟨_, rfl, ?_⟩) | ((with_reducible refine gate_callee (f := 17) rfl ?_); refine goesA (some 15) Tryd.func17 #[.string a0] ?_; (with_reducible refine (value_Scan.calls k a0 t536 t537 t538 t539 t540 _ ?side1 A4.out).mono ?_); (case side1 => exact Tabs.below HT.out bwA); rintro e w6 ⟨rfl, hb⟩; refine ⟨_, rfl, ?_⟩; have n0_ := Aside0.mk (below_step bwA hb); clear HB; have HB := n0_; clear n0_; (try clear hb); (try clear hb2); (try clear hk); (try clear hi)) | ((with_reducible refine gate_dst (N := 3) rfl ?_); refine box_event ?hg (N := 3) ?hd (cs := #[.int .i64 0, .int .i64 0, .string (⟨#[]⟩ : ByteArray)]) (t := 25) ?hr ?_; (case hd => rfl); (case hg => rfl); (case hr => first | (go_simp; done) | (go_simp; rfl)); intro gb541 hg w7 hbox hb; have n0_ := Aside0.mk (below_step bwA hb); have n1_ := Aside0.mk (hbox); have n2_ := Aside0.mk ((by rw [hg]; exact (below_size bwA) : w.heap.size ≤ gb541)); have n3_ := Aside0.mk ((by rw [hg]; exact (below_size bwA) : w.heap.size ≤ gb541)); clear HB; have HB := n0_; have BK541 := n1_; have GW541 := n2_; have GE541 := n3_; clear n0_ n1_ n2_ n3_; clear hb hbox hg; have hcz8_0 : w7.cell? ⟨gb541, 0, none⟩ = some (.int .i64 0) := (blk_cell BK541.out 0).trans rfl; have hcz8_1 : w7.cell? ⟨gb541, 1, none⟩ = some (.int .i64 0) := (blk_cell BK541.out 1).trans rfl; have hcz8_2 : w7.cell? ⟨gb541, 2, none⟩ = some (.string (⟨#[]⟩ : ByteArray)) := (blk_cell BK541.out 2).trans rfl; have hfz8_0 := blk_frozen BK541.out 0; have hfz8_1 := blk_frozen BK541.out 1; have hfz8_2 := blk_frozen BK541.out 2))
  (try simp only [Act.put, List.setIfInBounds_toArray, List.set_cons_zero, List.set_cons_succ])
  go_cut [33] (fun v33 wc => ∃ (kq : Nat) (x33_4 : Bool), v33 = .bool x33_4 ∧ Aside0 (caduceuslaw03_ValueOnce.j0 kq a0 x33_4 = some r) ∧ Aside0 (kq ≤ k) ∧ Aside0 (wc.heap[gb541]? = some (.cells #[.int .i64 t536, .int .i64 t537, .string t538] 25 (0, 0))) ∧ Aside0 (Below w.heap.size w wc))
  case first =>
   have H := HC5.out
   clear HC5
   by_cases c9 : t540 = 0
   ·rw [if_pos c9] at H
    have c9b0 : (t540 == 0) = true := beq_iff_eq.mpr c9
    have c9b1 : (t540 != 0) = false := bne_eq_false_iff_eq.mpr c9
    clear c9
    (first | rw [c9b0] | (simp only [i64_w, i32_w]; rw [c9b0]) | skip)
    replace H := Option.bind_eq_some_iff.mp H
    obtain ⟨t542, A100, H⟩ := H
    replace H : (if t542 = true then ((value_Show.f k t536 t537 t538).bind fun t543 => (if t543.size + t539.size ≤ 9223372036854775807 then (caduceuslaw03_ValueOnce.j0 k a0 ((t543 ++ t539).toList != a0.toList)) else (none))) else (caduceuslaw03_ValueOnce.j0 k a0 true)) = some r := H
    have A10 := Aside0.mk A100
    clear A100
    by_cases c11 : t542 = true
    ·subst c11
     have H1 : ((value_Show.f k t536 t537 t538).bind fun t543 => (if t543.size + t539.size ≤ 9223372036854775807 then (caduceuslaw03_ValueOnce.j0 k a0 ((t543 ++ t539).toList != a0.toList)) else (none))) = some r := by rw [if_pos rfl] at H; exact H
     clear H
     have H := H1
     clear H1
     replace H := Option.bind_eq_some_iff.mp H
     obtain ⟨t543, A120, H⟩ := H
     replace H : (if t543.size + t539.size ≤ 9223372036854775807 then (caduceuslaw03_ValueOnce.j0 k a0 ((t543 ++ t539).toList != a0.toList)) else (none)) = some r := H
     have A12 := Aside0.mk A120
     clear A120
     by_cases c13 : t543.size + t539.size ≤ 9223372036854775807
     ·rw [if_pos c13] at H
      have c13b0 := eq_true c13
      have c13b1 : decide (t543.size + t539.size ≤ 9223372036854775807) = true := decide_eq_true c13
      try have c13b2 : (9223372036854775807 < t543.size + t539.size) = False := eq_false (Nat.not_lt.2 c13)
      have H' := Aside0.mk H
      clear H
      have hcz14_0 : w7.cell? ⟨gb541, 0, none⟩ = some (.int .i64 0) := (blk_cell BK541.out 0).trans rfl
      have hcz14_1 : w7.cell? ⟨gb541, 1, none⟩ = some (.int .i64 0) := (blk_cell BK541.out 1).trans rfl
      have hcz14_2 : w7.cell? ⟨gb541, 2, none⟩ = some (.string (⟨#[]⟩ : ByteArray)) := (blk_cell BK541.out 2).trans rfl
      have hfz14_0 := blk_frozen BK541.out 0
      have hfz14_1 := blk_frozen BK541.out 1
      have hfz14_2 := blk_frozen BK541.out 2
      go_wp2_with (first | (go_at_call 28; (with_reducible refine (value_Check.calls t536 t537 t538 true _ ?side1 A10.out).mono ?_); (case side1 => exact Tabs.below HT.out bwA); rintro e w15 ⟨rfl, hb⟩; have n0_ := Aside0.mk (blk_below (g := gb541) (o := .cells #[.int .i64 t536, .int .i64 t537, .string t538] 25 (0, 0)) (by (with_reducible repeat (first | refine blk_drewN ?_ _ | refine blk_drew ?_ | refine blk_alloc ?_ _)); refine blk_put (cs := #[.int .i64 t536, .int .i64 t537, .string (⟨#[]⟩ : ByteArray)]) ?_ 2 _ rfl; (with_reducible repeat (first | refine blk_drewN ?_ _ | refine blk_drew ?_ | refine blk_alloc ?_ _)); refine blk_put (cs := #[.int .i64 t536, .int .i64 0, .string (⟨#[]⟩ : ByteArray)]) ?_ 1 _ rfl; (with_reducible repeat (first | refine blk_drewN ?_ _ | refine blk_drew ?_ | refine blk_alloc ?_ _)); refine blk_put (cs := #[.int .i64 0, .int .i64 0, .string (⟨#[]⟩ : ByteArray)]) ?_ 0 _ rfl; (with_reducible repeat (first | refine blk_drewN ?_ _ | refine blk_drew ?_ | refine blk_alloc ?_ _)); exact BK541.out) hb); have n1_ := Aside0.mk (below_step bwA hb); clear BK541; clear HB; have BK541 := n0_; have HB := n1_; clear n0_ n1_; (try clear hb); (try clear hb2); (try clear hk); (try clear hi); have hcz16_0 : w15.cell? ⟨gb541, 0, none⟩ = some (.int .i64 t536) := (blk_cell BK541.out 0).trans rfl; have hcz16_1 : w15.cell? ⟨gb541, 1, none⟩ = some (.int .i64 t537) := (blk_cell BK541.out 1).trans rfl; have hcz16_2 : w15.cell? ⟨gb541, 2, none⟩ = some (.string t538) := (blk_cell BK541.out 2).trans rfl; have hfz16_0 := blk_frozen BK541.out 0; have hfz16_1 := blk_frozen BK541.out 1; have hfz16_2 := blk_frozen BK541.out 2) | (go_at_call 39; (with_reducible refine (value_Show.calls k t536 t537 t538 t543 _ ?side1 A12.out).mono ?_); (case side1 => exact Tabs.below HT.out bwA); rintro e w17 ⟨rfl, hb⟩; have n0_ := Aside0.mk (blk_below (g := gb541) (o := .cells #[.int .i64 t536, .int .i64 t537, .string t538] 25 (0, 0)) blkA hb); have n1_ := Aside0.mk (below_step bwA hb); clear BK541; clear HB; have BK541 := n0_; have HB := n1_; clear n0_ n1_; (try clear hb); (try clear hb2); (try clear hk); (try clear hi)))
      go_meet
      case rel => exact ⟨_, (((t543 ++ t539).toList != a0.toList)), (by first | rfl | (simp; done) | (simp [*]; done)), H', ⟨by first | omega | exact Nat.le_refl _⟩, ⟨by (with_reducible repeat (first | refine blk_drewN ?_ _ | refine blk_drew ?_ | refine blk_alloc ?_ _)); exact BK541.out⟩, ⟨by repeat (first | (with_reducible first | exact HB.out | apply below_alloc | apply pw_below_drewN | apply below_drew1 | refine below_set ?_ GE541.out) | exact HB.out)⟩⟩
     ·rw [if_neg c13] at H
      exact absurd H (by simp)
    ·replace c11 := Bool.eq_false_iff.mpr c11
     subst c11
     have H1 : (caduceuslaw03_ValueOnce.j0 k a0 true) = some r := by rw [if_neg (show ¬ (false = true) by decide)] at H; exact H
     clear H
     have H := H1
     clear H1
     have H' := Aside0.mk H
     clear H
     have hcz18_0 : w7.cell? ⟨gb541, 0, none⟩ = some (.int .i64 0) := (blk_cell BK541.out 0).trans rfl
     have hcz18_1 : w7.cell? ⟨gb541, 1, none⟩ = some (.int .i64 0) := (blk_cell BK541.out 1).trans rfl
     have hcz18_2 : w7.cell? ⟨gb541, 2, none⟩ = some (.string (⟨#[]⟩ : ByteArray)) := (blk_cell BK541.out 2).trans rfl
     have hfz18_0 := blk_frozen BK541.out 0
     have hfz18_1 := blk_frozen BK541.out 1
     have hfz18_2 := blk_frozen BK541.out 2
     go_wp2_with (first | (go_at_call 28; (with_reducible refine (value_Check.calls t536 t537 t538 false _ ?side1 A10.out).mono ?_); (case side1 => exact Tabs.below HT.out bwA); rintro e w19 ⟨rfl, hb⟩; have n0_ := Aside0.mk (blk_below (g := gb541) (o := .cells #[.int .i64 t536, .int .i64 t537, .string t538] 25 (0, 0)) (by (with_reducible repeat (first | refine blk_drewN ?_ _ | refine blk_drew ?_ | refine blk_alloc ?_ _)); refine blk_put (cs := #[.int .i64 t536, .int .i64 t537, .string (⟨#[]⟩ : ByteArray)]) ?_ 2 _ rfl; (with_reducible repeat (first | refine blk_drewN ?_ _ | refine blk_drew ?_ | refine blk_alloc ?_ _)); refine blk_put (cs := #[.int .i64 t536, .int .i64 0, .string (⟨#[]⟩ : ByteArray)]) ?_ 1 _ rfl; (with_reducible repeat (first | refine blk_drewN ?_ _ | refine blk_drew ?_ | refine blk_alloc ?_ _)); refine blk_put (cs := #[.int .i64 0, .int .i64 0, .string (⟨#[]⟩ : ByteArray)]) ?_ 0 _ rfl; (with_reducible repeat (first | refine blk_drewN ?_ _ | refine blk_drew ?_ | refine blk_alloc ?_ _)); exact BK541.out) hb); have n1_ := Aside0.mk (below_step bwA hb); clear BK541; clear HB; have BK541 := n0_; have HB := n1_; clear n0_ n1_; (try clear hb); (try clear hb2); (try clear hk); (try clear hi)))
     go_meet
     case rel => exact ⟨_, (true), (by first | rfl | (simp; done) | (simp [*]; done)), H', ⟨by first | omega | exact Nat.le_refl _⟩, ⟨by (with_reducible repeat (first | refine blk_drewN ?_ _ | refine blk_drew ?_ | refine blk_alloc ?_ _)); exact BK541.out⟩, ⟨by repeat (first | (with_reducible first | exact HB.out | apply below_alloc | apply pw_below_drewN | apply below_drew1 | refine below_set ?_ GE541.out) | exact HB.out)⟩⟩
   ·rw [if_neg c9] at H
    have c9b0 : (t540 == 0) = false := beq_eq_false_iff_ne.mpr c9
    have c9b1 : (t540 != 0) = true := bne_iff_ne.mpr c9
    (first | rw [c9b0] | (simp only [i64_w, i32_w]; rw [c9b0]) | skip)
    have H' := Aside0.mk H
    clear H
    go_wp2
    go_meet
    case rel => exact ⟨_, (false), (by first | rfl | (simp; done) | (simp [*]; done)), H', ⟨by first | omega | exact Nat.le_refl _⟩, ⟨by (with_reducible repeat (first | refine blk_drewN ?_ _ | refine blk_drew ?_ | refine blk_alloc ?_ _)); refine blk_put (cs := #[.int .i64 t536, .int .i64 t537, .string (⟨#[]⟩ : ByteArray)]) ?_ 2 _ rfl; (with_reducible repeat (first | refine blk_drewN ?_ _ | refine blk_drew ?_ | refine blk_alloc ?_ _)); refine blk_put (cs := #[.int .i64 t536, .int .i64 0, .string (⟨#[]⟩ : ByteArray)]) ?_ 1 _ rfl; (with_reducible repeat (first | refine blk_drewN ?_ _ | refine blk_drew ?_ | refine blk_alloc ?_ _)); refine blk_put (cs := #[.int .i64 0, .int .i64 0, .string (⟨#[]⟩ : ByteArray)]) ?_ 0 _ rfl; (with_reducible repeat (first | refine blk_drewN ?_ _ | refine blk_drew ?_ | refine blk_alloc ?_ _)); exact BK541.out⟩, ⟨by repeat (first | (with_reducible first | exact HB.out | apply below_alloc | apply pw_below_drewN | apply below_drew1 | refine below_set ?_ GE541.out) | exact HB.out)⟩⟩
  case rest =>
   clear HC5
   try clear c1
   try clear p2
   try clear c3
   try clear c9
   try clear c9b0
   try clear c9b1
   try clear c11
   try clear c13
   try clear c13b0
   try clear c13b1
   try clear c13b2
   try clear c14
   try clear c15
   try clear c17
   try clear hcz14_0
   try clear hcz14_1
   try clear hcz14_2
   try clear hcz16_0
   try clear hcz16_1
   try clear hcz16_2
   try clear hcz18_0
   try clear hcz18_1
   try clear hcz18_2
   try clear hcz8_0
   try clear hcz8_1
   try clear hcz8_2
   try clear hfz14_0
   try clear hfz14_1
   try clear hfz14_2
   try clear hfz16_0
   try clear hfz16_1
   try clear hfz16_2
   try clear hfz18_0
   try clear hfz18_1
   try clear hfz18_2
   try clear hfz8_0
   try clear hfz8_1
   try clear hfz8_2
   obtain ⟨kq, x33_4, rfl, HA, HJ4, BK541, HB⟩ := hcut
   cases kq with
   | zero => exact absurd HA.out (by simp [caduceuslaw03_ValueOnce.j0])
   | succ kj4 =>
    have H := HA.out
    clear HA
    simp only [caduceuslaw03_ValueOnce.j0] at H
    by_cases c20 : x33_4 = true
    ·subst c20
     have H1 : (none) = some r := by rw [if_pos rfl] at H; exact H
     clear H
     have H := H1
     clear H1
     exact absurd H (by simp)
    ·replace c20 := Bool.eq_false_iff.mpr c20
     subst c20
     have H1 : ((value_Read.f kj4 a0).bind fun bt544 => ((caduceuslaw03_awake.f kj4).bind fun t550 => (if t550 = true then (if bt544.2.2.2.2 = 0 then ((value_Check.f bt544.1 bt544.2.1 bt544.2.2.1).bind fun t551 => (if t551 = true then ((value_Text.f kj4 bt544.1 bt544.2.1 bt544.2.2.1).bind fun t552 => (if t552.size + bt544.2.2.2.1.size ≤ 9223372036854775807 then (some ((t552 ++ bt544.2.2.2.1).toList == a0.toList)) else (none))) else (none))) else (some true)) else (none)))) = some r := by rw [if_neg (show ¬ (false = true) by decide)] at H; exact H
     clear H
     have H := H1
     clear H1
     replace H := Option.bind_eq_some_iff.mp H
     obtain ⟨⟨t544, t545, t546, t547, t548⟩, A210, H⟩ := H
     replace H : ((caduceuslaw03_awake.f kj4).bind fun t550 => (if t550 = true then (if t548 = 0 then ((value_Check.f t544 t545 t546).bind fun t551 => (if t551 = true then ((value_Text.f kj4 t544 t545 t546).bind fun t552 => (if t552.size + t547.size ≤ 9223372036854775807 then (some ((t552 ++ t547).toList == a0.toList)) else (none))) else (none))) else (some true)) else (none))) = some r := H
     have A21 := Aside0.mk A210
     clear A210
     replace H := Option.bind_eq_some_iff.mp H
     obtain ⟨t550, A220, H⟩ := H
     replace H : (if t550 = true then (if t548 = 0 then ((value_Check.f t544 t545 t546).bind fun t551 => (if t551 = true then ((value_Text.f kj4 t544 t545 t546).bind fun t552 => (if t552.size + t547.size ≤ 9223372036854775807 then (some ((t552 ++ t547).toList == a0.toList)) else (none))) else (none))) else (some true)) else (none)) = some r := H
     have A22 := Aside0.mk A220
     clear A220
     by_cases c23 : t550 = true
     ·subst c23
      have H1 : (if t548 = 0 then ((value_Check.f t544 t545 t546).bind fun t551 => (if t551 = true then ((value_Text.f kj4 t544 t545 t546).bind fun t552 => (if t552.size + t547.size ≤ 9223372036854775807 then (some ((t552 ++ t547).toList == a0.toList)) else (none))) else (none))) else (some true)) = some r := by rw [if_pos rfl] at H; exact H
      clear H
      have H := H1
      clear H1
      by_cases c24 : t548 = 0
      ·rw [if_pos c24] at H
       have c24b0 : (t548 == 0) = true := beq_iff_eq.mpr c24
       have c24b1 : (t548 != 0) = false := bne_eq_false_iff_eq.mpr c24
       clear c24
       replace H := Option.bind_eq_some_iff.mp H
       obtain ⟨t551, A250, H⟩ := H
       replace H : (if t551 = true then ((value_Text.f kj4 t544 t545 t546).bind fun t552 => (if t552.size + t547.size ≤ 9223372036854775807 then (some ((t552 ++ t547).toList == a0.toList)) else (none))) else (none)) = some r := H
       have A25 := Aside0.mk A250
       clear A250
       by_cases c26 : t551 = true
       ·subst c26
        have H1 : ((value_Text.f kj4 t544 t545 t546).bind fun t552 => (if t552.size + t547.size ≤ 9223372036854775807 then (some ((t552 ++ t547).toList == a0.toList)) else (none))) = some r := by rw [if_pos rfl] at H; exact H
        clear H
        have H := H1
        clear H1
        replace H := Option.bind_eq_some_iff.mp H
        obtain ⟨t552, A270, H⟩ := H
        replace H : (if t552.size + t547.size ≤ 9223372036854775807 then (some ((t552 ++ t547).toList == a0.toList)) else (none)) = some r := H
        have A27 := Aside0.mk A270
        clear A270
        by_cases c28 : t552.size + t547.size ≤ 9223372036854775807
        ·rw [if_pos c28] at H
         have c28b0 := eq_true c28
         have c28b1 : decide (t552.size + t547.size ≤ 9223372036854775807) = true := decide_eq_true c28
         try have c28b2 : (9223372036854775807 < t552.size + t547.size) = False := eq_false (Nat.not_lt.2 c28)
         obtain rfl := Option.some.inj H
         go_wp2_with (first | ((with_reducible refine gate_callee (f := 35) rfl ?_); refine goesA (some 36) Tryd.func35 #[.string a0] ?_; (with_reducible refine (value_Read.calls kj4 a0 t544 t545 t546 t547 t548 _ ?side1 A21.out).mono ?_); (case side1 => exact Tabs.below HT.out bwA); rintro e w29 ⟨rfl, hb⟩; refine ⟨_, rfl, ?_⟩; have n0_ := Aside0.mk (blk_below (g := gb541) (o := .cells #[.int .i64 t536, .int .i64 t537, .string t538] 25 (0, 0)) blkA hb); have n1_ := Aside0.mk (below_step bwA hb); clear BK541; clear HB; have BK541 := n0_; have HB := n1_; clear n0_ n1_; (try clear hb); (try clear hb2); (try clear hk); (try clear hi)) | ((with_reducible refine gate_dst (N := 6) rfl ?_); refine box_event ?hg (N := 6) ?hd (cs := #[.int .i64 0, .int .i64 0, .string (⟨#[]⟩ : ByteArray)]) (t := 25) ?hr ?_; (case hd => rfl); (case hg => rfl); (case hr => first | (go_simp; done) | (go_simp; rfl)); intro gb549 hg w30 hbox hb; have n0_ := Aside0.mk (blk_below (g := gb541) (o := .cells #[.int .i64 t536, .int .i64 t537, .string t538] 25 (0, 0)) blkA hb); have n1_ := Aside0.mk (below_step bwA hb); have n2_ := Aside0.mk (hbox); have n3_ := Aside0.mk ((by rw [hg]; exact (below_size bwA) : w.heap.size ≤ gb549)); have n4_ := Aside0.mk ((by rw [hg]; exact (below_size bwA) : w.heap.size ≤ gb549)); have n5_ := Aside0.mk ((by rw [hg]; exact Nat.ne_of_lt (blk_lt (g := gb541) (o := .cells #[.int .i64 t536, .int .i64 t537, .string t538] 25 (0, 0)) blkA) : gb541 ≠ gb549)); have n6_ := Aside0.mk ((by rw [hg]; exact Nat.ne_of_gt (blk_lt (g := gb541) (o := .cells #[.int .i64 t536, .int .i64 t537, .string t538] 25 (0, 0)) blkA) : gb549 ≠ gb541)); clear BK541; clear HB; have BK541 := n0_; have HB := n1_; have BK549 := n2_; have GW549 := n3_; have GE549 := n4_; have NB541_549 := n5_; have NB549_541 := n6_; clear n0_ n1_ n2_ n3_ n4_ n5_ n6_; clear hb hbox hg; have hnb31 := NB549_541.out; have hnc31 := NB541_549.out; have hcz32_0 : w30.cell? ⟨gb549, 0, none⟩ = some (.int .i64 0) := (blk_cell BK549.out 0).trans rfl; have hcz32_1 : w30.cell? ⟨gb549, 1, none⟩ = some (.int .i64 0) := (blk_cell BK549.out 1).trans rfl; have hcz32_2 : w30.cell? ⟨gb549, 2, none⟩ = some (.string (⟨#[]⟩ : ByteArray)) := (blk_cell BK549.out 2).trans rfl; have hfz32_0 := blk_frozen BK549.out 0; have hfz32_1 := blk_frozen BK549.out 1; have hfz32_2 := blk_frozen BK549.out 2) | ((with_reducible refine gate_callee (f := 16) rfl ?_); refine goesA (some 40) Tryd.func16 #[] ?_; (with_reducible refine (caduceuslaw03_awake.calls kj4  true _ ?side1 A22.out).mono ?_); (case side1 => exact Tabs.below HT.out bwA); rintro e w33 ⟨rfl, hb⟩; refine ⟨_, rfl, ?_⟩; have n0_ := Aside0.mk (blk_below (g := gb541) (o := .cells #[.int .i64 t536, .int .i64 t537, .string t538] 25 (0, 0)) (by (with_reducible repeat (first | refine blk_drewN ?_ _ | refine blk_drew ?_ | refine blk_alloc ?_ _)); refine blk_far ?_ NB541_549.out _; (with_reducible repeat (first | refine blk_drewN ?_ _ | refine blk_drew ?_ | refine blk_alloc ?_ _)); refine blk_far ?_ NB541_549.out _; (with_reducible repeat (first | refine blk_drewN ?_ _ | refine blk_drew ?_ | refine blk_alloc ?_ _)); refine blk_far ?_ NB541_549.out _; (with_reducible repeat (first | refine blk_drewN ?_ _ | refine blk_drew ?_ | refine blk_alloc ?_ _)); exact BK541.out) hb); have n1_ := Aside0.mk (blk_below (g := gb549) (o := .cells #[.int .i64 t544, .int .i64 t545, .string t546] 25 (0, 0)) (by (with_reducible repeat (first | refine blk_drewN ?_ _ | refine blk_drew ?_ | refine blk_alloc ?_ _)); refine blk_put (cs := #[.int .i64 t544, .int .i64 t545, .string (⟨#[]⟩ : ByteArray)]) ?_ 2 _ rfl; (with_reducible repeat (first | refine blk_drewN ?_ _ | refine blk_drew ?_ | refine blk_alloc ?_ _)); refine blk_put (cs := #[.int .i64 t544, .int .i64 0, .string (⟨#[]⟩ : ByteArray)]) ?_ 1 _ rfl; (with_reducible repeat (first | refine blk_drewN ?_ _ | refine blk_drew ?_ | refine blk_alloc ?_ _)); refine blk_put (cs := #[.int .i64 0, .int .i64 0, .string (⟨#[]⟩ : ByteArray)]) ?_ 0 _ rfl; (with_reducible repeat (first | refine blk_drewN ?_ _ | refine blk_drew ?_ | refine blk_alloc ?_ _)); exact BK549.out) hb); have n2_ := Aside0.mk (below_step bwA hb); clear BK541; clear BK549; clear HB; have BK541 := n0_; have BK549 := n1_; have HB := n2_; clear n0_ n1_ n2_; (try clear hb); (try clear hb2); (try clear hk); (try clear hi); have hcz34_0 : w33.cell? ⟨gb549, 0, none⟩ = some (.int .i64 t544) := (blk_cell BK549.out 0).trans rfl; have hcz34_1 : w33.cell? ⟨gb549, 1, none⟩ = some (.int .i64 t545) := (blk_cell BK549.out 1).trans rfl; have hcz34_2 : w33.cell? ⟨gb549, 2, none⟩ = some (.string t546) := (blk_cell BK549.out 2).trans rfl; have hfz34_0 := blk_frozen BK549.out 0; have hfz34_1 := blk_frozen BK549.out 1; have hfz34_2 := blk_frozen BK549.out 2) | (go_at_call 28; (with_reducible refine (value_Check.calls t544 t545 t546 true _ ?side1 A25.out).mono ?_); (case side1 => exact Tabs.below HT.out bwA); rintro e w35 ⟨rfl, hb⟩; have n0_ := Aside0.mk (blk_below (g := gb541) (o := .cells #[.int .i64 t536, .int .i64 t537, .string t538] 25 (0, 0)) blkA hb); have n1_ := Aside0.mk (blk_below (g := gb549) (o := .cells #[.int .i64 t544, .int .i64 t545, .string t546] 25 (0, 0)) blkA hb); have n2_ := Aside0.mk (below_step bwA hb); clear BK541; clear BK549; clear HB; have BK541 := n0_; have BK549 := n1_; have HB := n2_; clear n0_ n1_ n2_; (try clear hb); (try clear hb2); (try clear hk); (try clear hi); have hcz36_0 : w35.cell? ⟨gb549, 0, none⟩ = some (.int .i64 t544) := (blk_cell BK549.out 0).trans rfl; have hcz36_1 : w35.cell? ⟨gb549, 1, none⟩ = some (.int .i64 t545) := (blk_cell BK549.out 1).trans rfl; have hcz36_2 : w35.cell? ⟨gb549, 2, none⟩ = some (.string t546) := (blk_cell BK549.out 2).trans rfl; have hfz36_0 := blk_frozen BK549.out 0; have hfz36_1 := blk_frozen BK549.out 1; have hfz36_2 := blk_frozen BK549.out 2) | (go_at_call 40; (with_reducible refine (value_Text.calls kj4 t544 t545 t546 t552 _ ?side1 A27.out).mono ?_); (case side1 => exact Tabs.below HT.out bwA); rintro e w37 ⟨rfl, hb⟩; have n0_ := Aside0.mk (blk_below (g := gb541) (o := .cells #[.int .i64 t536, .int .i64 t537, .string t538] 25 (0, 0)) blkA hb); have n1_ := Aside0.mk (blk_below (g := gb549) (o := .cells #[.int .i64 t544, .int .i64 t545, .string t546] 25 (0, 0)) blkA hb); have n2_ := Aside0.mk (below_step bwA hb); clear BK541; clear BK549; clear HB; have BK541 := n0_; have BK549 := n1_; have HB := n2_; clear n0_ n1_ n2_; (try clear hb); (try clear hb2); (try clear hk); (try clear hi)))
         go_ret
         exact ⟨by first | rfl | (simp [errW_none, errW_some] <;> rfl) | (simp [*, errW_none, errW_some] <;> rfl), by repeat (first | (with_reducible first | exact HB.out | apply below_alloc | apply pw_below_drewN | apply below_drew1 | refine below_set ?_ GE541.out | refine below_set ?_ GE549.out) | exact HB.out)⟩
        ·rw [if_neg c28] at H
         exact absurd H (by simp)
       ·replace c26 := Bool.eq_false_iff.mpr c26
        subst c26
        have H1 : (none) = some r := by rw [if_neg (show ¬ (false = true) by decide)] at H; exact H
        clear H
        have H := H1
        clear H1
        exact absurd H (by simp)
      ·rw [if_neg c24] at H
       have c24b0 : (t548 == 0) = false := beq_eq_false_iff_ne.mpr c24
       have c24b1 : (t548 != 0) = true := bne_iff_ne.mpr c24
       obtain rfl := Option.some.inj H
       go_wp2_with (first | ((with_reducible refine gate_callee (f := 35) rfl ?_); refine goesA (some 36) Tryd.func35 #[.string a0] ?_; (with_reducible refine (value_Read.calls kj4 a0 t544 t545 t546 t547 t548 _ ?side1 A21.out).mono ?_); (case side1 => exact Tabs.below HT.out bwA); rintro e w38 ⟨rfl, hb⟩; refine ⟨_, rfl, ?_⟩; have n0_ := Aside0.mk (blk_below (g := gb541) (o := .cells #[.int .i64 t536, .int .i64 t537, .string t538] 25 (0, 0)) blkA hb); have n1_ := Aside0.mk (below_step bwA hb); clear BK541; clear HB; have BK541 := n0_; have HB := n1_; clear n0_ n1_; (try clear hb); (try clear hb2); (try clear hk); (try clear hi)) | ((with_reducible refine gate_dst (N := 6) rfl ?_); refine box_event ?hg (N := 6) ?hd (cs := #[.int .i64 0, .int .i64 0, .string (⟨#[]⟩ : ByteArray)]) (t := 25) ?hr ?_; (case hd => rfl); (case hg => rfl); (case hr => first | (go_simp; done) | (go_simp; rfl)); intro gb549 hg w39 hbox hb; have n0_ := Aside0.mk (blk_below (g := gb541) (o := .cells #[.int .i64 t536, .int .i64 t537, .string t538] 25 (0, 0)) blkA hb); have n1_ := Aside0.mk (below_step bwA hb); have n2_ := Aside0.mk (hbox); have n3_ := Aside0.mk ((by rw [hg]; exact (below_size bwA) : w.heap.size ≤ gb549)); have n4_ := Aside0.mk ((by rw [hg]; exact (below_size bwA) : w.heap.size ≤ gb549)); have n5_ := Aside0.mk ((by rw [hg]; exact Nat.ne_of_lt (blk_lt (g := gb541) (o := .cells #[.int .i64 t536, .int .i64 t537, .string t538] 25 (0, 0)) blkA) : gb541 ≠ gb549)); have n6_ := Aside0.mk ((by rw [hg]; exact Nat.ne_of_gt (blk_lt (g := gb541) (o := .cells #[.int .i64 t536, .int .i64 t537, .string t538] 25 (0, 0)) blkA) : gb549 ≠ gb541)); clear BK541; clear HB; have BK541 := n0_; have HB := n1_; have BK549 := n2_; have GW549 := n3_; have GE549 := n4_; have NB541_549 := n5_; have NB549_541 := n6_; clear n0_ n1_ n2_ n3_ n4_ n5_ n6_; clear hb hbox hg; have hnb40 := NB549_541.out; have hnc40 := NB541_549.out; have hcz41_0 : w39.cell? ⟨gb549, 0, none⟩ = some (.int .i64 0) := (blk_cell BK549.out 0).trans rfl; have hcz41_1 : w39.cell? ⟨gb549, 1, none⟩ = some (.int .i64 0) := (blk_cell BK549.out 1).trans rfl; have hcz41_2 : w39.cell? ⟨gb549, 2, none⟩ = some (.string (⟨#[]⟩ : ByteArray)) := (blk_cell BK549.out 2).trans rfl; have hfz41_0 := blk_frozen BK549.out 0; have hfz41_1 := blk_frozen BK549.out 1; have hfz41_2 := blk_frozen BK549.out 2) | ((with_reducible refine gate_callee (f := 16) rfl ?_); refine goesA (some 40) Tryd.func16 #[] ?_; (with_reducible refine (caduceuslaw03_awake.calls kj4  true _ ?side1 A22.out).mono ?_); (case side1 => exact Tabs.below HT.out bwA); rintro e w42 ⟨rfl, hb⟩; refine ⟨_, rfl, ?_⟩; have n0_ := Aside0.mk (blk_below (g := gb541) (o := .cells #[.int .i64 t536, .int .i64 t537, .string t538] 25 (0, 0)) (by (with_reducible repeat (first | refine blk_drewN ?_ _ | refine blk_drew ?_ | refine blk_alloc ?_ _)); refine blk_far ?_ NB541_549.out _; (with_reducible repeat (first | refine blk_drewN ?_ _ | refine blk_drew ?_ | refine blk_alloc ?_ _)); refine blk_far ?_ NB541_549.out _; (with_reducible repeat (first | refine blk_drewN ?_ _ | refine blk_drew ?_ | refine blk_alloc ?_ _)); refine blk_far ?_ NB541_549.out _; (with_reducible repeat (first | refine blk_drewN ?_ _ | refine blk_drew ?_ | refine blk_alloc ?_ _)); exact BK541.out) hb); have n1_ := Aside0.mk (blk_below (g := gb549) (o := .cells #[.int .i64 t544, .int .i64 t545, .string t546] 25 (0, 0)) (by (with_reducible repeat (first | refine blk_drewN ?_ _ | refine blk_drew ?_ | refine blk_alloc ?_ _)); refine blk_put (cs := #[.int .i64 t544, .int .i64 t545, .string (⟨#[]⟩ : ByteArray)]) ?_ 2 _ rfl; (with_reducible repeat (first | refine blk_drewN ?_ _ | refine blk_drew ?_ | refine blk_alloc ?_ _)); refine blk_put (cs := #[.int .i64 t544, .int .i64 0, .string (⟨#[]⟩ : ByteArray)]) ?_ 1 _ rfl; (with_reducible repeat (first | refine blk_drewN ?_ _ | refine blk_drew ?_ | refine blk_alloc ?_ _)); refine blk_put (cs := #[.int .i64 0, .int .i64 0, .string (⟨#[]⟩ : ByteArray)]) ?_ 0 _ rfl; (with_reducible repeat (first | refine blk_drewN ?_ _ | refine blk_drew ?_ | refine blk_alloc ?_ _)); exact BK549.out) hb); have n2_ := Aside0.mk (below_step bwA hb); clear BK541; clear BK549; clear HB; have BK541 := n0_; have BK549 := n1_; have HB := n2_; clear n0_ n1_ n2_; (try clear hb); (try clear hb2); (try clear hk); (try clear hi)))
       go_ret
       exact ⟨by first | rfl | (simp [errW_none, errW_some] <;> rfl) | (simp [*, errW_none, errW_some] <;> rfl), by repeat (first | (with_reducible first | exact HB.out | apply below_alloc | apply pw_below_drewN | apply below_drew1 | refine below_set ?_ GE541.out | refine below_set ?_ GE549.out) | exact HB.out)⟩
     ·replace c23 := Bool.eq_false_iff.mpr c23
      subst c23
      have H1 : (none) = some r := by rw [if_neg (show ¬ (false = true) by decide)] at H; exact H
      clear H
      have H := H1
      clear H1
      exact absurd H (by simp)
 ·replace c3 := Bool.eq_false_iff.mpr c3
  subst c3
  have H1 : ((caduceuslaw03_awake.f k).bind fun t535 => (some t535)) = some r := by rw [if_neg (show ¬ (false = true) by decide)] at H; exact H
  clear H
  have H := H1
  clear H1
  replace H := Option.bind_eq_some_iff.mp H
  obtain ⟨t535, A430, H⟩ := H
  replace H : (some t535) = some r := H
  have A43 := Aside0.mk A430
  clear A430
  obtain rfl := Option.some.inj H
  go_enter Tryd.func14, Tryd.ntmps14
  go_wp2_with (first | ((with_reducible refine gate_callee (f := 15) rfl ?_); refine goesA (some 10) Tryd.func15 #[.string a0] ?_; (with_reducible refine (caduceuslaw03_few.calls a0 false _ A2.out).mono ?_); rintro e w' ⟨rfl, ⟨nd, rfl⟩⟩; refine ⟨_, rfl, ?_⟩) | ((with_reducible refine gate_callee (f := 16) rfl ?_); refine goesA (some 12) Tryd.func16 #[] ?_; (with_reducible refine (caduceuslaw03_awake.calls k  t535 _ ?side1 A43.out).mono ?_); (case side1 => exact Tabs.below HT.out bwA); rintro e w44 ⟨rfl, hb⟩; refine ⟨_, rfl, ?_⟩; have n0_ := Aside0.mk (below_step bwA hb); clear HB; have HB := n0_; clear n0_; (try clear hb); (try clear hb2); (try clear hk); (try clear hi)))
  go_ret
  exact ⟨by first | rfl | (simp [errW_none, errW_some] <;> rfl) | (simp [*, errW_none, errW_some] <;> rfl), by repeat (first | (with_reducible first | exact HB.out | apply below_alloc | apply pw_below_drewN | apply below_drew1) | exact HB.out)⟩

end Go.Proofs.YtoajlmmkkcelgaaDoor.A
