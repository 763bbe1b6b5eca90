-- By drv.py, the session's own driver round the kit's print: the machine's side of the laws, function by function. Not trusted: Lean checks it.
import Derived.Test.YtplemgmfnghoeaaGreatDoorAx0
import Derived.Test.YtplemgmfnghoeaaGreatDoorAx6
namespace Go.Proofs.YtplemgmfnghoeaaGreatDoor.A
open Go.RowKit Go.Proofs.YtplemgmfnghoeaaGreatDoorW.PrintWords Go.Proofs.YtplemgmfnghoeaaGreatDoorW.PrintLast Go.Proofs.YtplemgmfnghoeaaGreatDoorW.PrintMore
attribute [local go_sem] max2_int min2_int max_two min_two max_three min_three max_four min_four   -- for this text's walks alone
set_option linter.unusedVariables false
set_option linter.unusedSimpArgs false

/-! ### forest_IsID: function 33 -/
def forest_IsID.f (a0_0 : Int) (a0_1 : Int) (a0_2 : Int) : Option (Bool) := if a0_0 ≥ 1 then (if a0_0 ≤ 15 then ((forest_count.f a0_1).bind fun t129 => (if t129 = true then ((forest_count.f a0_2).bind fun t130 => (some t130)) else (some false))) else (some false)) else (some false)
set_option maxHeartbeats 8000000 in
set_option maxRecDepth 100000 in
theorem forest_IsID.calls (a0_0 : Int) (a0_1 : Int) (a0_2 : Int) (r : Bool) (w : World) (h : forest_IsID.f a0_0 a0_1 a0_2 = some r) :
  Calls Tryz.prog 33 #[.agg #[.int .i64 a0_0, .int .i64 a0_1, .int .i64 a0_2]] w fun e w' => e = .returned (.bool r) ∧ Below w.heap.size w w' := by
 have hu23 := Tryz.underlying23
 have HB := Aside0.mk (Below.refl w.heap.size w)
 have H : (if a0_0 ≥ 1 then (if a0_0 ≤ 15 then ((forest_count.f a0_1).bind fun t129 => (if t129 = true then ((forest_count.f a0_2).bind fun t130 => (some t130)) else (some false))) else (some false)) else (some false)) = some r := h
 clear h
 by_cases c2 : a0_0 ≥ 1
 ·rw [if_pos c2] at H
  have c2b0 : decide (1 ≤ a0_0) = true := decide_eq_true c2
  clear c2
  by_cases c3 : a0_0 ≤ 15
  ·rw [if_pos c3] at H
   have c3b0 : decide (a0_0 ≤ 15) = true := decide_eq_true c3
   clear c3
   replace H := Option.bind_eq_some_iff.mp H
   obtain ⟨t129, A40, H⟩ := H
   replace H : (if t129 = true then ((forest_count.f a0_2).bind fun t130 => (some t130)) else (some false)) = some r := H
   have A4 := Aside0.mk A40
   clear A40
   by_cases c5 : t129 = true
   ·subst c5
    have H1 : ((forest_count.f a0_2).bind fun t130 => (some t130)) = some r := by rw [if_pos rfl] at H; exact H
    clear H
    have H := H1
    clear H1
    replace H := Option.bind_eq_some_iff.mp H
    obtain ⟨t130, A60, H⟩ := H
    replace H : (some t130) = some r := H
    have A6 := Aside0.mk A60
    clear A60
    obtain rfl := Option.some.inj H
    go_enter Tryz.func33, Tryz.ntmps33
    go_wp2_with (first | ((with_reducible refine gate_dst (N := 1) rfl ?_); refine box_event ?hg (N := 1) ?hd (cs := #[.int .i64 a0_0, .int .i64 a0_1, .int .i64 a0_2]) (t := 23) ?hr ?_; (case hd => rfl); (case hg => rfl); (case hr => first | (go_simp; done) | (go_simp; rfl)); intro gb128 hg w7 hbox hb; have n0_ := Aside0.mk (below_step (bwA) hb); have n1_ := Aside0.mk (hbox); have n2_ := Aside0.mk ((by rw [hg]; exact (below_size (bwA)) : w.heap.size ≤ gb128)); have n3_ := Aside0.mk ((by rw [hg]; exact (below_size (bwA)) : w.heap.size ≤ gb128)); clear HB; have HB := n0_; have BK128 := n1_; have GW128 := n2_; have GE128 := n3_; clear n0_ n1_ n2_ n3_; clear hb hbox hg; have hcz8_0 : w7.cell? ⟨gb128, 0, none⟩ = some (.int .i64 a0_0) := (blk_cell BK128.out 0).trans rfl; have hcz8_1 : w7.cell? ⟨gb128, 1, none⟩ = some (.int .i64 a0_1) := (blk_cell BK128.out 1).trans rfl; have hcz8_2 : w7.cell? ⟨gb128, 2, none⟩ = some (.int .i64 a0_2) := (blk_cell BK128.out 2).trans rfl; have hfz8_0 := blk_frozen BK128.out 0; have hfz8_1 := blk_frozen BK128.out 1; have hfz8_2 := blk_frozen BK128.out 2) | (go_at_call 59; (with_reducible refine (forest_count.calls a0_1 true _ A4.out).mono ?_); rintro e w' ⟨rfl, ⟨nd, rfl⟩⟩) | (go_at_call 59; (with_reducible refine (forest_count.calls a0_2 t130 _ A6.out).mono ?_); rintro e w' ⟨rfl, ⟨nd, rfl⟩⟩))
    go_ret
    exact ⟨endA, bwA⟩
   ·replace c5 := Bool.eq_false_iff.mpr c5
    subst c5
    have H1 : (some false) = some r := by rw [if_neg (show ¬ (false = true) by decide)] at H; exact H
    clear H
    have H := H1
    clear H1
    obtain rfl := Option.some.inj H
    go_enter Tryz.func33, Tryz.ntmps33
    go_wp2_with (first | ((with_reducible refine gate_dst (N := 1) rfl ?_); refine box_event ?hg (N := 1) ?hd (cs := #[.int .i64 a0_0, .int .i64 a0_1, .int .i64 a0_2]) (t := 23) ?hr ?_; (case hd => rfl); (case hg => rfl); (case hr => first | (go_simp; done) | (go_simp; rfl)); intro gb128 hg w9 hbox hb; have n0_ := Aside0.mk (below_step (bwA) hb); have n1_ := Aside0.mk (hbox); have n2_ := Aside0.mk ((by rw [hg]; exact (below_size (bwA)) : w.heap.size ≤ gb128)); have n3_ := Aside0.mk ((by rw [hg]; exact (below_size (bwA)) : w.heap.size ≤ gb128)); clear HB; have HB := n0_; have BK128 := n1_; have GW128 := n2_; have GE128 := n3_; clear n0_ n1_ n2_ n3_; clear hb hbox hg; have hcz10_0 : w9.cell? ⟨gb128, 0, none⟩ = some (.int .i64 a0_0) := (blk_cell BK128.out 0).trans rfl; have hcz10_1 : w9.cell? ⟨gb128, 1, none⟩ = some (.int .i64 a0_1) := (blk_cell BK128.out 1).trans rfl; have hcz10_2 : w9.cell? ⟨gb128, 2, none⟩ = some (.int .i64 a0_2) := (blk_cell BK128.out 2).trans rfl; have hfz10_0 := blk_frozen BK128.out 0; have hfz10_1 := blk_frozen BK128.out 1; have hfz10_2 := blk_frozen BK128.out 2) | (go_at_call 59; (with_reducible refine (forest_count.calls a0_1 false _ A4.out).mono ?_); rintro e w' ⟨rfl, ⟨nd, rfl⟩⟩))
    go_ret
    exact ⟨endA, bwA⟩
  ·rw [if_neg c3] at H
   have c3b0 : decide (a0_0 ≤ 15) = false := decide_eq_false c3
   clear c3
   obtain rfl := Option.some.inj H
   go_enter Tryz.func33, Tryz.ntmps33
   go_wp2_with (first | ((with_reducible refine gate_dst (N := 1) rfl ?_); refine box_event ?hg (N := 1) ?hd (cs := #[.int .i64 a0_0, .int .i64 a0_1, .int .i64 a0_2]) (t := 23) ?hr ?_; (case hd => rfl); (case hg => rfl); (case hr => first | (go_simp; done) | (go_simp; rfl)); intro gb128 hg w11 hbox hb; have n0_ := Aside0.mk (below_step (bwA) hb); have n1_ := Aside0.mk (hbox); have n2_ := Aside0.mk ((by rw [hg]; exact (below_size (bwA)) : w.heap.size ≤ gb128)); have n3_ := Aside0.mk ((by rw [hg]; exact (below_size (bwA)) : w.heap.size ≤ gb128)); clear HB; have HB := n0_; have BK128 := n1_; have GW128 := n2_; have GE128 := n3_; clear n0_ n1_ n2_ n3_; clear hb hbox hg; have hcz12_0 : w11.cell? ⟨gb128, 0, none⟩ = some (.int .i64 a0_0) := (blk_cell BK128.out 0).trans rfl; have hcz12_1 : w11.cell? ⟨gb128, 1, none⟩ = some (.int .i64 a0_1) := (blk_cell BK128.out 1).trans rfl; have hcz12_2 : w11.cell? ⟨gb128, 2, none⟩ = some (.int .i64 a0_2) := (blk_cell BK128.out 2).trans rfl; have hfz12_0 := blk_frozen BK128.out 0; have hfz12_1 := blk_frozen BK128.out 1; have hfz12_2 := blk_frozen BK128.out 2))
   go_ret
   exact ⟨endA, bwA⟩
 ·rw [if_neg c2] at H
  have c2b0 : decide (1 ≤ a0_0) = false := decide_eq_false c2
  clear c2
  obtain rfl := Option.some.inj H
  go_enter Tryz.func33, Tryz.ntmps33
  go_wp2_with (first | ((with_reducible refine gate_dst (N := 1) rfl ?_); refine box_event ?hg (N := 1) ?hd (cs := #[.int .i64 a0_0, .int .i64 a0_1, .int .i64 a0_2]) (t := 23) ?hr ?_; (case hd => rfl); (case hg => rfl); (case hr => first | (go_simp; done) | (go_simp; rfl)); intro gb128 hg w13 hbox hb; have n0_ := Aside0.mk (below_step (bwA) hb); have n1_ := Aside0.mk (hbox); have n2_ := Aside0.mk ((by rw [hg]; exact (below_size (bwA)) : w.heap.size ≤ gb128)); have n3_ := Aside0.mk ((by rw [hg]; exact (below_size (bwA)) : w.heap.size ≤ gb128)); clear HB; have HB := n0_; have BK128 := n1_; have GW128 := n2_; have GE128 := n3_; clear n0_ n1_ n2_ n3_; clear hb hbox hg; have hcz14_0 : w13.cell? ⟨gb128, 0, none⟩ = some (.int .i64 a0_0) := (blk_cell BK128.out 0).trans rfl; have hcz14_1 : w13.cell? ⟨gb128, 1, none⟩ = some (.int .i64 a0_1) := (blk_cell BK128.out 1).trans rfl; have hcz14_2 : w13.cell? ⟨gb128, 2, none⟩ = some (.int .i64 a0_2) := (blk_cell BK128.out 2).trans rfl; have hfz14_0 := blk_frozen BK128.out 0; have hfz14_1 := blk_frozen BK128.out 1; have hfz14_2 := blk_frozen BK128.out 2))
  go_ret
  exact ⟨endA, bwA⟩

/-! ### name_Letter: function 94 -/
def name_Letter.j0 : Nat → Int → Bool → Option (Bool)
 | 0, _, _ => none
 | k + 1, x0, x3 => if x3 = true then (some true) else ((name_between.f x0 192 591).bind fun t133 => (if t133 = true then (if x0 = 215 then (some false) else (some (x0 != 247))) else ((name_between.f x0 913 937).bind fun t134 => (if t134 = true then (some (x0 != 930)) else ((name_between.f x0 945 969).bind fun t135 => (if t135 = true then (some true) else ((name_between.f x0 1040 1103).bind fun t136 => (if t136 = true then (some true) else ((name_between.f x0 19968 40959).bind fun t137 => (some t137))))))))))
def name_Letter.f (k : Nat) (a0 : Int) : Option (Bool) := (name_between.f a0 65 90).bind fun t131 => (if t131 = true then (name_Letter.j0 k a0 t131) else ((name_between.f a0 97 122).bind fun t132 => (name_Letter.j0 k a0 t132)))
theorem name_Letter.mono_l : ∀ k, (∀ y0 y1, LeO (name_Letter.j0 k y0 y1) (name_Letter.j0 (k + 1) y0 y1))
 | 0 => fun _ _ r h => by simp [name_Letter.j0] at h
 | k + 1 => by
  have ih0 := name_Letter.mono_l k
  ·intro y0 y1
   unfold name_Letter.j0
   repeat' first
   | (with_reducible exact ih0 _ _)
   | (with_reducible exact LeO.refl _)
   | (with_reducible exact LeO.none _)
   | (with_reducible refine LeO.ite ?_ ?_)
   | (with_reducible refine LeO.bind ?_ (fun _ => ?_))
   | exact ih0 _ _
   | exact LeO.none _
   | refine LeO.ite ?_ ?_
   | refine LeO.bind ?_ (fun _ => ?_)
theorem name_Letter.mono : ∀ a0 k, LeO (name_Letter.f k a0) (name_Letter.f (k + 1) a0) := by
 intro a0 k
 have ih0 := name_Letter.mono_l k
 unfold name_Letter.f
 repeat' first
   | (with_reducible exact ih0 _ _)
   | (with_reducible exact LeO.refl _)
   | (with_reducible exact LeO.none _)
   | (with_reducible refine LeO.ite ?_ ?_)
   | (with_reducible refine LeO.bind ?_ (fun _ => ?_))
   | exact ih0 _ _
   | exact LeO.none _
   | refine LeO.ite ?_ ?_
   | refine LeO.bind ?_ (fun _ => ?_)
set_option maxHeartbeats 8000000 in
set_option maxRecDepth 100000 in
theorem name_Letter.calls (k : Nat) (a0 : Int) (r : Bool) (w : World) (h : name_Letter.f k a0 = some r) :
  Calls Tryz.prog 94 #[.int .i32 a0] w fun e w' => e = .returned (.bool r) ∧ Drawn0 w w' := by
 have H : ((name_between.f a0 65 90).bind fun t131 => (if t131 = true then (name_Letter.j0 k a0 t131) else ((name_between.f a0 97 122).bind fun t132 => (name_Letter.j0 k a0 t132)))) = some r := h
 clear h
 replace H := Option.bind_eq_some_iff.mp H
 obtain ⟨t131, A20, H⟩ := H
 replace H : (if t131 = true then (name_Letter.j0 k a0 t131) else ((name_between.f a0 97 122).bind fun t132 => (name_Letter.j0 k a0 t132))) = some r := H
 have A2 := Aside0.mk A20
 clear A20
 have HC3 := Aside0.mk H
 clear H
 go_enter Tryz.func94, Tryz.ntmps94
 go_upto_if 3 with (first | ((with_reducible refine gate_callee (f := 129) rfl ?_); refine goesA (some 5) Tryz.func129 #[.int .i32 a0, .int .i32 65, .int .i32 90] ?_; (with_reducible refine (name_between.calls a0 65 90 t131 _ A2.out).mono ?_); rintro e w' ⟨rfl, ⟨nd, rfl⟩⟩; refine ⟨_, rfl, ?_⟩))
 (try simp only [Act.put, List.setIfInBounds_toArray, List.set_cons_zero, List.set_cons_succ])
 go_cut [3] (fun v3 wc => ∃ (kq : Nat) (x3_2 : Bool), v3 = .bool x3_2 ∧ Aside0 (name_Letter.j0 kq a0 x3_2 = some r) ∧ Aside0 (kq ≤ k) ∧ Drawn0 w wc)
 case first =>
  have H := HC3.out
  clear HC3
  by_cases c4 : t131 = true
  ·subst c4
   have H1 : (name_Letter.j0 k a0 true) = some r := by rw [if_pos rfl] at H; exact H
   clear H
   have H := H1
   clear H1
   have H' := Aside0.mk H
   clear H
   go_wp2
   go_meet
   case rel => exact ⟨_, (true), (endS), H', ⟨by first | omega | exact Nat.le_refl _⟩, drA⟩
  ·replace c4 := Bool.eq_false_iff.mpr c4
   subst c4
   have H1 : ((name_between.f a0 97 122).bind fun t132 => (name_Letter.j0 k a0 t132)) = some r := by rw [if_neg (show ¬ (false = true) by decide)] at H; exact H
   clear H
   have H := H1
   clear H1
   replace H := Option.bind_eq_some_iff.mp H
   obtain ⟨t132, A50, H⟩ := H
   replace H : (name_Letter.j0 k a0 t132) = some r := H
   have A5 := Aside0.mk A50
   clear A50
   have H' := Aside0.mk H
   clear H
   go_wp2_with (first | ((with_reducible refine gate_callee (f := 129) rfl ?_); refine goesA (some 7) Tryz.func129 #[.int .i32 a0, .int .i32 97, .int .i32 122] ?_; (with_reducible refine (name_between.calls a0 97 122 t132 _ A5.out).mono ?_); rintro e w' ⟨rfl, ⟨nd, rfl⟩⟩; refine ⟨_, rfl, ?_⟩))
   go_meet
   case rel => exact ⟨_, (t132), (endS), H', ⟨by first | omega | exact Nat.le_refl _⟩, drA⟩
 case rest =>
  clear HC3
  try clear c1
  try clear p2
  try clear c4
  obtain ⟨kq, x3_2, rfl, HA, HJ2, ⟨mc2, rfl⟩⟩ := hcut
  cases kq with
  | zero => exact absurd HA.out (by simp [name_Letter.j0])
  | succ kj2 =>
   have H := HA.out
   clear HA
   simp only [name_Letter.j0] at H
   by_cases c6 : x3_2 = true
   ·subst c6
    have H1 : (some true) = some r := by rw [if_pos rfl] at H; exact H
    clear H
    have H := H1
    clear H1
    obtain rfl := Option.some.inj H
    go_wp2
    go_ret
    exact ⟨endS, drA⟩
   ·replace c6 := Bool.eq_false_iff.mpr c6
    subst c6
    have H1 : ((name_between.f a0 192 591).bind fun t133 => (if t133 = true then (if a0 = 215 then (some false) else (some (a0 != 247))) else ((name_between.f a0 913 937).bind fun t134 => (if t134 = true then (some (a0 != 930)) else ((name_between.f a0 945 969).bind fun t135 => (if t135 = true then (some true) else ((name_between.f a0 1040 1103).bind fun t136 => (if t136 = true then (some true) else ((name_between.f a0 19968 40959).bind fun t137 => (some t137)))))))))) = some r := by rw [if_neg (show ¬ (false = true) by decide)] at H; exact H
    clear H
    have H := H1
    clear H1
    replace H := Option.bind_eq_some_iff.mp H
    obtain ⟨t133, A70, H⟩ := H
    replace H : (if t133 = true then (if a0 = 215 then (some false) else (some (a0 != 247))) else ((name_between.f a0 913 937).bind fun t134 => (if t134 = true then (some (a0 != 930)) else ((name_between.f a0 945 969).bind fun t135 => (if t135 = true then (some true) else ((name_between.f a0 1040 1103).bind fun t136 => (if t136 = true then (some true) else ((name_between.f a0 19968 40959).bind fun t137 => (some t137))))))))) = some r := H
    have A7 := Aside0.mk A70
    clear A70
    by_cases c8 : t133 = true
    ·subst c8
     have H1 : (if a0 = 215 then (some false) else (some (a0 != 247))) = some r := by rw [if_pos rfl] at H; exact H
     clear H
     have H := H1
     clear H1
     by_cases c9 : a0 = 215
     ·rw [if_pos c9] at H
      have c9b0 : (a0 == 215) = true := beq_iff_eq.mpr c9
      have c9b1 : (a0 != 215) = false := bne_eq_false_iff_eq.mpr c9
      clear c9
      obtain rfl := Option.some.inj H
      go_wp2_with (first | ((with_reducible refine gate_callee (f := 129) rfl ?_); refine goesA (some 10) Tryz.func129 #[.int .i32 a0, .int .i32 192, .int .i32 591] ?_; (with_reducible refine (name_between.calls a0 192 591 true _ A7.out).mono ?_); rintro e w' ⟨rfl, ⟨nd, rfl⟩⟩; refine ⟨_, rfl, ?_⟩))
      go_ret
      exact ⟨endS, drA⟩
     ·rw [if_neg c9] at H
      have c9b0 : (a0 == 215) = false := beq_eq_false_iff_ne.mpr c9
      have c9b1 : (a0 != 215) = true := bne_iff_ne.mpr c9
      obtain rfl := Option.some.inj H
      go_wp2_with (first | ((with_reducible refine gate_callee (f := 129) rfl ?_); refine goesA (some 10) Tryz.func129 #[.int .i32 a0, .int .i32 192, .int .i32 591] ?_; (with_reducible refine (name_between.calls a0 192 591 true _ A7.out).mono ?_); rintro e w' ⟨rfl, ⟨nd, rfl⟩⟩; refine ⟨_, rfl, ?_⟩))
      go_ret
      exact ⟨endS, drA⟩
    ·replace c8 := Bool.eq_false_iff.mpr c8
     subst c8
     have H1 : ((name_between.f a0 913 937).bind fun t134 => (if t134 = true then (some (a0 != 930)) else ((name_between.f a0 945 969).bind fun t135 => (if t135 = true then (some true) else ((name_between.f a0 1040 1103).bind fun t136 => (if t136 = true then (some true) else ((name_between.f a0 19968 40959).bind fun t137 => (some t137)))))))) = some r := by rw [if_neg (show ¬ (false = true) by decide)] at H; exact H
     clear H
     have H := H1
     clear H1
     replace H := Option.bind_eq_some_iff.mp H
     obtain ⟨t134, A100, H⟩ := H
     replace H : (if t134 = true then (some (a0 != 930)) else ((name_between.f a0 945 969).bind fun t135 => (if t135 = true then (some true) else ((name_between.f a0 1040 1103).bind fun t136 => (if t136 = true then (some true) else ((name_between.f a0 19968 40959).bind fun t137 => (some t137))))))) = some r := H
     have A10 := Aside0.mk A100
     clear A100
     by_cases c11 : t134 = true
     ·subst c11
      have H1 : (some (a0 != 930)) = some r := by rw [if_pos rfl] at H; exact H
      clear H
      have H := H1
      clear H1
      obtain rfl := Option.some.inj H
      go_wp2_with (first | ((with_reducible refine gate_callee (f := 129) rfl ?_); refine goesA (some 10) Tryz.func129 #[.int .i32 a0, .int .i32 192, .int .i32 591] ?_; (with_reducible refine (name_between.calls a0 192 591 false _ A7.out).mono ?_); rintro e w' ⟨rfl, ⟨nd, rfl⟩⟩; refine ⟨_, rfl, ?_⟩) | ((with_reducible refine gate_callee (f := 129) rfl ?_); refine goesA (some 19) Tryz.func129 #[.int .i32 a0, .int .i32 913, .int .i32 937] ?_; (with_reducible refine (name_between.calls a0 913 937 true _ A10.out).mono ?_); rintro e w' ⟨rfl, ⟨nd, rfl⟩⟩; refine ⟨_, rfl, ?_⟩))
      go_ret
      exact ⟨endS, drA⟩
     ·replace c11 := Bool.eq_false_iff.mpr c11
      subst c11
      have H1 : ((name_between.f a0 945 969).bind fun t135 => (if t135 = true then (some true) else ((name_between.f a0 1040 1103).bind fun t136 => (if t136 = true then (some true) else ((name_between.f a0 19968 40959).bind fun t137 => (some t137)))))) = some r := by rw [if_neg (show ¬ (false = true) by decide)] at H; exact H
      clear H
      have H := H1
      clear H1
      replace H := Option.bind_eq_some_iff.mp H
      obtain ⟨t135, A120, H⟩ := H
      replace H : (if t135 = true then (some true) else ((name_between.f a0 1040 1103).bind fun t136 => (if t136 = true then (some true) else ((name_between.f a0 19968 40959).bind fun t137 => (some t137))))) = some r := H
      have A12 := Aside0.mk A120
      clear A120
      by_cases c13 : t135 = true
      ·subst c13
       have H1 : (some true) = some r := by rw [if_pos rfl] at H; exact H
       clear H
       have H := H1
       clear H1
       obtain rfl := Option.some.inj H
       go_wp2_with (first | ((with_reducible refine gate_callee (f := 129) rfl ?_); refine goesA (some 10) Tryz.func129 #[.int .i32 a0, .int .i32 192, .int .i32 591] ?_; (with_reducible refine (name_between.calls a0 192 591 false _ A7.out).mono ?_); rintro e w' ⟨rfl, ⟨nd, rfl⟩⟩; refine ⟨_, rfl, ?_⟩) | ((with_reducible refine gate_callee (f := 129) rfl ?_); refine goesA (some 19) Tryz.func129 #[.int .i32 a0, .int .i32 913, .int .i32 937] ?_; (with_reducible refine (name_between.calls a0 913 937 false _ A10.out).mono ?_); rintro e w' ⟨rfl, ⟨nd, rfl⟩⟩; refine ⟨_, rfl, ?_⟩) | ((with_reducible refine gate_callee (f := 129) rfl ?_); refine goesA (some 23) Tryz.func129 #[.int .i32 a0, .int .i32 945, .int .i32 969] ?_; (with_reducible refine (name_between.calls a0 945 969 true _ A12.out).mono ?_); rintro e w' ⟨rfl, ⟨nd, rfl⟩⟩; refine ⟨_, rfl, ?_⟩))
       go_ret
       exact ⟨endS, drA⟩
      ·replace c13 := Bool.eq_false_iff.mpr c13
       subst c13
       have H1 : ((name_between.f a0 1040 1103).bind fun t136 => (if t136 = true then (some true) else ((name_between.f a0 19968 40959).bind fun t137 => (some t137)))) = some r := by rw [if_neg (show ¬ (false = true) by decide)] at H; exact H
       clear H
       have H := H1
       clear H1
       replace H := Option.bind_eq_some_iff.mp H
       obtain ⟨t136, A140, H⟩ := H
       replace H : (if t136 = true then (some true) else ((name_between.f a0 19968 40959).bind fun t137 => (some t137))) = some r := H
       have A14 := Aside0.mk A140
       clear A140
       by_cases c15 : t136 = true
       ·subst c15
        have H1 : (some true) = some r := by rw [if_pos rfl] at H; exact H
        clear H
        have H := H1
        clear H1
        obtain rfl := Option.some.inj H
        go_wp2_with (first | ((with_reducible refine gate_callee (f := 129) rfl ?_); refine goesA (some 10) Tryz.func129 #[.int .i32 a0, .int .i32 192, .int .i32 591] ?_; (with_reducible refine (name_between.calls a0 192 591 false _ A7.out).mono ?_); rintro e w' ⟨rfl, ⟨nd, rfl⟩⟩; refine ⟨_, rfl, ?_⟩) | ((with_reducible refine gate_callee (f := 129) rfl ?_); refine goesA (some 19) Tryz.func129 #[.int .i32 a0, .int .i32 913, .int .i32 937] ?_; (with_reducible refine (name_between.calls a0 913 937 false _ A10.out).mono ?_); rintro e w' ⟨rfl, ⟨nd, rfl⟩⟩; refine ⟨_, rfl, ?_⟩) | ((with_reducible refine gate_callee (f := 129) rfl ?_); refine goesA (some 23) Tryz.func129 #[.int .i32 a0, .int .i32 945, .int .i32 969] ?_; (with_reducible refine (name_between.calls a0 945 969 false _ A12.out).mono ?_); rintro e w' ⟨rfl, ⟨nd, rfl⟩⟩; refine ⟨_, rfl, ?_⟩) | (go_at_call 129; (with_reducible refine (name_between.calls a0 1040 1103 true _ A14.out).mono ?_); rintro e w' ⟨rfl, ⟨nd, rfl⟩⟩))
        go_ret
        exact ⟨endS, drA⟩
       ·replace c15 := Bool.eq_false_iff.mpr c15
        subst c15
        have H1 : ((name_between.f a0 19968 40959).bind fun t137 => (some t137)) = some r := by rw [if_neg (show ¬ (false = true) by decide)] at H; exact H
        clear H
        have H := H1
        clear H1
        replace H := Option.bind_eq_some_iff.mp H
        obtain ⟨t137, A160, H⟩ := H
        replace H : (some t137) = some r := H
        have A16 := Aside0.mk A160
        clear A160
        obtain rfl := Option.some.inj H
        go_wp2_with (first | ((with_reducible refine gate_callee (f := 129) rfl ?_); refine goesA (some 10) Tryz.func129 #[.int .i32 a0, .int .i32 192, .int .i32 591] ?_; (with_reducible refine (name_between.calls a0 192 591 false _ A7.out).mono ?_); rintro e w' ⟨rfl, ⟨nd, rfl⟩⟩; refine ⟨_, rfl, ?_⟩) | ((with_reducible refine gate_callee (f := 129) rfl ?_); refine goesA (some 19) Tryz.func129 #[.int .i32 a0, .int .i32 913, .int .i32 937] ?_; (with_reducible refine (name_between.calls a0 913 937 false _ A10.out).mono ?_); rintro e w' ⟨rfl, ⟨nd, rfl⟩⟩; refine ⟨_, rfl, ?_⟩) | ((with_reducible refine gate_callee (f := 129) rfl ?_); refine goesA (some 23) Tryz.func129 #[.int .i32 a0, .int .i32 945, .int .i32 969] ?_; (with_reducible refine (name_between.calls a0 945 969 false _ A12.out).mono ?_); rintro e w' ⟨rfl, ⟨nd, rfl⟩⟩; refine ⟨_, rfl, ?_⟩) | (go_at_call 129; (with_reducible refine (name_between.calls a0 1040 1103 false _ A14.out).mono ?_); rintro e w' ⟨rfl, ⟨nd, rfl⟩⟩) | (go_at_call 129; (with_reducible refine (name_between.calls a0 19968 40959 t137 _ A16.out).mono ?_); rintro e w' ⟨rfl, ⟨nd, rfl⟩⟩))
        go_ret
        exact ⟨endS, drA⟩

/-! ### name_digit: function 95 -/
def name_digit.f (a0 : Int) : Option (Bool) := (name_between.f a0 48 57).bind fun t138 => (some t138)
set_option maxHeartbeats 8000000 in
set_option maxRecDepth 100000 in
theorem name_digit.calls (a0 : Int) (r : Bool) (w : World) (h : name_digit.f a0 = some r) :
  Calls Tryz.prog 95 #[.int .i32 a0] w fun e w' => e = .returned (.bool r) ∧ Drawn0 w w' := by
 have H : ((name_between.f a0 48 57).bind fun t138 => (some t138)) = some r := h
 clear h
 replace H := Option.bind_eq_some_iff.mp H
 obtain ⟨t138, A20, H⟩ := H
 replace H : (some t138) = some r := H
 have A2 := Aside0.mk A20
 clear A20
 obtain rfl := Option.some.inj H
 go_enter Tryz.func95, Tryz.ntmps95
 go_wp2_with (first | ((with_reducible refine gate_callee (f := 129) rfl ?_); refine goesA (some 4) Tryz.func129 #[.int .i32 a0, .int .i32 48, .int .i32 57] ?_; (with_reducible refine (name_between.calls a0 48 57 t138 _ A2.out).mono ?_); rintro e w' ⟨rfl, ⟨nd, rfl⟩⟩; refine ⟨_, rfl, ?_⟩))
 go_ret
 exact ⟨endS, drA⟩

/-! ### name_formed: function 60, by hand -/
/-- A rune behind what was: 0: no name; 1: within a part; 2: a part is to begin. -/
def name_formed.st (k : Nat) (first : Bool) (c : Int) : Option Int :=
 if c = 46 then (if first = true then some 0 else some 2)
 else (name_Letter.f k c).bind fun t => if t = true then some 1 else if c = 95 then some 1 else if first = true then some 0 else (name_digit.f c).bind fun d => if d = true then some 1 else if c = 45 then some 1 else some 0
def name_formed.go (k : Nat) (s : ByteArray) : Nat → Nat → Bool → Option Bool
 | 0, _, _ => none
 | f + 1, pos, first => if pos < s.size then (name_formed.st k first ((Utf8.decode s pos).1 : Int)).bind fun t => if t = 0 then some false else name_formed.go k s f (pos + (Utf8.decode s pos).2) (decide (t = 2)) else some (!first)
def name_formed.f (k : Nat) (a0 : ByteArray) : Option Bool := if a0.size ≤ 1099511627776 then (if a0.toList = [] then some false else (if Lib.validD a0.data.toList = true then name_formed.go k a0 (a0.size + 1) 0 true else some false)) else none
theorem name_formed.mono_st (k : Nat) (first : Bool) (c : Int) : LeO (name_formed.st k first c) (name_formed.st (k + 1) first c) := by
 unfold name_formed.st
 repeat' first
  | (with_reducible exact LeO.refl _)
  | (with_reducible exact name_Letter.mono _ _)
  | (with_reducible refine LeO.ite ?_ ?_)
  | (with_reducible refine LeO.bind ?_ (fun _ => ?_))
theorem name_formed.mono_go (k : Nat) (s : ByteArray) : ∀ f pos first, LeO (name_formed.go k s f pos first) (name_formed.go (k + 1) s f pos first)
 | 0, _, _ => fun r h => by simp [name_formed.go] at h
 | f + 1, pos, first => by
  unfold name_formed.go
  repeat' first
   | (with_reducible exact LeO.refl _)
   | (with_reducible exact name_formed.mono_st _ _ _)
   | exact name_formed.mono_go k s f _ _
   | (with_reducible refine LeO.ite ?_ ?_)
   | (with_reducible refine LeO.bind ?_ (fun _ => ?_))
theorem name_formed.mono : ∀ a0 k, LeO (name_formed.f k a0) (name_formed.f (k + 1) a0) := by
 intro a0 k
 unfold name_formed.f
 repeat' first
  | exact name_formed.mono_go k a0 _ _ _
  | exact LeO.refl _
  | exact LeO.none _
  | refine LeO.ite ?_ ?_
set_option maxHeartbeats 8000000 in
set_option maxRecDepth 100000 in
theorem name_formed.calls (k : Nat) (a0 : ByteArray) (r : Bool) (w : World) (hT : Tabs w) (h : name_formed.f k a0 = some r) :
  Calls Tryz.prog 60 #[.string a0] w fun e w' => e = .returned (.bool r) ∧ Below w.heap.size w w' := by
 unfold name_formed.f at h
 split at h
 ·rename_i hs
  have cV := Tryz.utf8_ValidString a0 w (by omega) hT.u8
  clear hT
  by_cases h0 : a0.toList = []
  ·rw [if_pos h0] at h
   obtain rfl := Option.some.inj h
   have hb0 : a0.toList.isEmpty = true := by rw [h0]; rfl
   have hb1 : (a0.toList == ([] : List UInt8)) = true := by rw [h0]; rfl
   go_enter Tryz.func60, Tryz.ntmps60
   go_wp2_with fail
   go_ret
   exact ⟨rfl, Below.refl _ _⟩
  rw [if_neg h0] at h
  have hb0 : a0.toList.isEmpty = false := by cases hq : a0.toList with
   | nil => exact absurd hq h0
   | cons _ _ => rfl
  have hb1 : (a0.toList == ([] : List UInt8)) = false := by rw [beq_eq_false_iff_ne]; exact h0
  by_cases hv : Lib.validD a0.data.toList = true
  ·rw [if_pos hv] at h
   have H := Lib.hid h
   rw [hv] at cV
   clear h hv
   go_enter Tryz.func60, Tryz.ntmps60
   go_wp2_with (go_at_call 92; refine cV.mono ?_; rintro e w1 ⟨rfl, hb1⟩)
   go_loopw [3] (fun v3 wr => ∃ (pos fuel : Nat) (first : Bool), v3 = .bool first ∧ wr.heap[w1.heap.size]? = some (.stringIter a0 pos) ∧ Below w.heap.size w wr ∧ Hid (name_formed.go k a0 fuel pos first = some r)) (fun _ wr => a0.size - wr.iterPos w1.heap.size)
   case atStart => exact ⟨0, _, true, rfl, World.iter_heap w1 a0 0, hb1.alloc hb1.size _, H⟩
   case round =>
    obtain ⟨pos, fuel, first, rfl, hit, hbw, HG⟩ := hrel
    clear H
    have hsz : w1.heap.size < wr.heap.size := (Array.getElem?_eq_some_iff.1 hit).1
    have hsw : w.heap.size ≤ w1.heap.size := hb1.size
    cases fuel with
    | zero => exact absurd HG.out (by simp [name_formed.go])
    | succ f =>
     have hgo := HG.out
     clear HG
     unfold name_formed.go at hgo
     by_cases hp : pos < a0.size
     ·rw [if_pos hp] at hgo
      have hnx : ∀ ty, (Instr.next (.pointer (some ⟨w1.heap.size, 0, none⟩)) true ty).run Tryz.prog wr = _ := fun ty => Lib.run_next_any_at wr w1.heap.size a0 pos ty hit hp
      have Hwd := Lib.hid (Lib.width_pos a0 pos)
      have Hd1 := Lib.hid (decode_le a0 pos)
      have hit2 := Lib.iterAt_heap wr w1.heap.size a0 pos (pos + (Utf8.decode a0 pos).2) hit
      have hbw2 := Lib.below_iterAt hbw (k := w1.heap.size) hsw a0 (pos + (Utf8.decode a0 pos).2)
      obtain ⟨t, hst, hgo⟩ := Option.bind_eq_some_iff.1 hgo
      unfold name_formed.st at hst
      have hL := fun t h W => name_Letter.calls k ((Utf8.decode a0 pos).1 : Int) t W h
      have hD := fun t h W => name_digit.calls ((Utf8.decode a0 pos).1 : Int) t W h
      generalize hc : (((Utf8.decode a0 pos).1 : Nat) : Int) = c at hst hL hD hnx
      have Hc := Lib.hid hc
      clear hc
      have e00 : t = 0 → r = false := fun e => by rw [if_pos e] at hgo; exact (Option.some.inj hgo).symm
      have e10 : t ≠ 0 → name_formed.go k a0 f (pos + (Utf8.decode a0 pos).2) (decide (t = 2)) = some r := fun e => by rw [if_neg e] at hgo; exact hgo
      have E0 := Lib.hid e00
      have E1 := Lib.hid e10
      clear hgo e00 e10
      by_cases c46 : c = 46
      ·rw [if_pos c46] at hst
       have k46 : (c == 46) = true := by rw [c46]; rfl
       clear c46
       cases first with
       | true =>
        rw [if_pos rfl] at hst
        obtain rfl := Option.some.inj hst
        obtain rfl := E0.out rfl
        clear hst hL hD E0 E1 Hc
        go_wp2_with (first | fail)
        go_ret
        exact ⟨rfl, (by repeat (first | exact hbw2 | apply pw_below_drewN))⟩
       | false =>
        rw [if_neg (by decide)] at hst
        obtain rfl := Option.some.inj hst
        have HE := Lib.hid (E1.out (by decide))
        clear hst hL hD E0 E1 Hc
        go_wp2_with (first | fail)
        go_roundw
        case rel => exact ⟨_, f, _, rfl, hit2, (by repeat (first | exact hbw2 | apply pw_below_drewN)), HE⟩
        case measure =>
         have hwd := Hwd.out
         have hd1 := Hd1.out
         have hm : ∀ (X : World) n b, (X.drewN n).iterPos b = X.iterPos b := fun _ _ _ => rfl
         try simp only [hm]
         simp only [World.iterPos, hit2, hit]
         omega
      rw [if_neg c46] at hst
      have k46 : (c == 46) = false := beq_eq_false_iff_ne.2 c46
      clear c46
      obtain ⟨l, hl, hst⟩ := Option.bind_eq_some_iff.1 hst
      have cL := hL l hl
      clear hl
      cases l with
      | true =>
       rw [if_pos rfl] at hst
       obtain rfl := Option.some.inj hst
       have HE := Lib.hid (E1.out (by decide))
       clear hst hL hD E0 E1 Hc
       go_wp2_with (first | (go_at_call 94; refine (cL _).mono ?_; rintro e w2 ⟨rfl, ⟨n1, rfl⟩⟩))
       go_roundw
       case rel => exact ⟨_, f, _, rfl, hit2, (by repeat (first | exact hbw2 | apply pw_below_drewN)), HE⟩
       case measure =>
        have hwd := Hwd.out
        have hd1 := Hd1.out
        have hm : ∀ (X : World) n b, (X.drewN n).iterPos b = X.iterPos b := fun _ _ _ => rfl
        try simp only [hm]
        simp only [World.iterPos, hit2, hit]
        omega
      | false =>
       rw [if_neg (by decide)] at hst
       by_cases c95 : c = 95
       ·rw [if_pos c95] at hst
        have k95 : (c == 95) = true := by rw [c95]; rfl
        clear c95
        obtain rfl := Option.some.inj hst
        have HE := Lib.hid (E1.out (by decide))
        clear hst hL hD E0 E1 Hc
        go_wp2_with (first | (go_at_call 94; refine (cL _).mono ?_; rintro e w2 ⟨rfl, ⟨n1, rfl⟩⟩))
        go_roundw
        case rel => exact ⟨_, f, _, rfl, hit2, (by repeat (first | exact hbw2 | apply pw_below_drewN)), HE⟩
        case measure =>
         have hwd := Hwd.out
         have hd1 := Hd1.out
         have hm : ∀ (X : World) n b, (X.drewN n).iterPos b = X.iterPos b := fun _ _ _ => rfl
         try simp only [hm]
         simp only [World.iterPos, hit2, hit]
         omega
       rw [if_neg c95] at hst
       have k95 : (c == 95) = false := beq_eq_false_iff_ne.2 c95
       clear c95
       cases first with
       | true =>
        rw [if_pos rfl] at hst
        obtain rfl := Option.some.inj hst
        obtain rfl := E0.out rfl
        clear hst hL hD E0 E1 Hc
        go_wp2_with (first | (go_at_call 94; refine (cL _).mono ?_; rintro e w2 ⟨rfl, ⟨n1, rfl⟩⟩))
        go_ret
        exact ⟨rfl, (by repeat (first | exact hbw2 | apply pw_below_drewN))⟩
       | false =>
        rw [if_neg (by decide)] at hst
        obtain ⟨d, hd, hst⟩ := Option.bind_eq_some_iff.1 hst
        have cD := hD d hd
        clear hd
        cases d with
        | true =>
         rw [if_pos rfl] at hst
         obtain rfl := Option.some.inj hst
         have HE := Lib.hid (E1.out (by decide))
         clear hst hL hD E0 E1 Hc
         go_wp2_with (first | (go_at_call 94; refine (cL _).mono ?_; rintro e w2 ⟨rfl, ⟨n1, rfl⟩⟩) | (go_at_call 95; refine (cD _).mono ?_; rintro e w2 ⟨rfl, ⟨n2, rfl⟩⟩))
         go_roundw
         case rel => exact ⟨_, f, _, rfl, hit2, (by repeat (first | exact hbw2 | apply pw_below_drewN)), HE⟩
         case measure =>
          have hwd := Hwd.out
          have hd1 := Hd1.out
          have hm : ∀ (X : World) n b, (X.drewN n).iterPos b = X.iterPos b := fun _ _ _ => rfl
          try simp only [hm]
          simp only [World.iterPos, hit2, hit]
          omega
        | false =>
         rw [if_neg (by decide)] at hst
         by_cases c45 : c = 45
         ·rw [if_pos c45] at hst
          have k45 : (c == 45) = true := by rw [c45]; rfl
          clear c45
          obtain rfl := Option.some.inj hst
          have HE := Lib.hid (E1.out (by decide))
          clear hst hL hD E0 E1 Hc
          go_wp2_with (first | (go_at_call 94; refine (cL _).mono ?_; rintro e w2 ⟨rfl, ⟨n1, rfl⟩⟩) | (go_at_call 95; refine (cD _).mono ?_; rintro e w2 ⟨rfl, ⟨n2, rfl⟩⟩))
          go_roundw
          case rel => exact ⟨_, f, _, rfl, hit2, (by repeat (first | exact hbw2 | apply pw_below_drewN)), HE⟩
          case measure =>
           have hwd := Hwd.out
           have hd1 := Hd1.out
           have hm : ∀ (X : World) n b, (X.drewN n).iterPos b = X.iterPos b := fun _ _ _ => rfl
           try simp only [hm]
           simp only [World.iterPos, hit2, hit]
           omega
         rw [if_neg c45] at hst
         have k45 : (c == 45) = false := beq_eq_false_iff_ne.2 c45
         clear c45
         obtain rfl := Option.some.inj hst
         obtain rfl := E0.out rfl
         clear hst hL hD E0 E1 Hc
         go_wp2_with (first | (go_at_call 94; refine (cL _).mono ?_; rintro e w2 ⟨rfl, ⟨n1, rfl⟩⟩) | (go_at_call 95; refine (cD _).mono ?_; rintro e w2 ⟨rfl, ⟨n2, rfl⟩⟩))
         go_ret
         exact ⟨rfl, (by repeat (first | exact hbw2 | apply pw_below_drewN))⟩
     ·rw [if_neg hp] at hgo
      obtain rfl := Option.some.inj hgo
      have hnx : ∀ ty, (Instr.next (.pointer (some ⟨w1.heap.size, 0, none⟩)) true ty).run Tryz.prog wr = _ := fun ty => Lib.run_next_end_at wr w1.heap.size a0 pos ty hit hp
      go_wp2
      go_ret
      exact ⟨rfl, hbw⟩
  ·rw [if_neg hv] at h
   obtain rfl := Option.some.inj h
   rw [Bool.eq_false_iff.2 hv] at cV
   clear hv
   go_enter Tryz.func60, Tryz.ntmps60
   go_wp2_with (go_at_call 92; refine cV.mono ?_; rintro e w1 ⟨rfl, hb1⟩)
   go_ret
   exact ⟨rfl, hb1⟩
 ·cases h

/-! ### utf8_RuneCountInString: function 61, by hand -/
def utf8_RuneCountInString.f (a0 : ByteArray) : Option Int := if a0.size < 9223372036854775807 then some (Lib.runeCount a0 : Int) else none
theorem utf8_RuneCountInString.calls (a0 : ByteArray) (r : Int) (w : World) (h : utf8_RuneCountInString.f a0 = some r) :
  Calls Tryz.prog 61 #[.string a0] w fun e w' => e = .returned (.int .i64 r) ∧ Below w.heap.size w w' := by
 unfold utf8_RuneCountInString.f at h
 split at h
 ·rename_i hs
  obtain rfl := Option.some.inj h
  refine (Tryz.utf8_RuneCountInString a0 w hs).mono ?_
  rintro e w' ⟨he, pos, rfl⟩
  exact ⟨he, (Below.refl _ w).alloc (Nat.le_refl _) _⟩
 ·cases h

/-! ### strings_Count: function 62, by hand -/
def strings_Count.f (a0 : ByteArray) (a1 : ByteArray) : Option Int := if a1.size = 1 then some (Lib.countByte a0.data.toList (a1.data.toList.getD 0 0) : Int) else none
theorem strings_Count.calls (a0 : ByteArray) (a1 : ByteArray) (r : Int) (w : World) (h : strings_Count.f a0 a1 = some r) :
  Calls Tryz.prog 62 #[.string a0, .string a1] w fun e w' => e = .returned (.int .i64 r) ∧ Drawn0 w w' := by
 unfold strings_Count.f at h
 split at h
 ·rename_i hs
  obtain rfl := Option.some.inj h
  obtain ⟨c, rfl⟩ : ∃ c : UInt8, a1 = ⟨#[c]⟩ := by
   obtain ⟨⟨l⟩⟩ := a1
   match l, hs with
   | [c], _ => exact ⟨c, rfl⟩
  refine (Tryz.strings_Count_one a0 c w).mono ?_
  rintro e w' ⟨he, rfl⟩
  exact ⟨he, Drawn0.refl _⟩
 ·cases h

end Go.Proofs.YtplemgmfnghoeaaGreatDoor.A
