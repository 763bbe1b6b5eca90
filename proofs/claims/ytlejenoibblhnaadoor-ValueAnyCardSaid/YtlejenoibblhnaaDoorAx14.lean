-- By drv.py, the session's own driver round the kit's print: the machine's side of the laws, function by function. Not trusted: Lean checks it.
import Derived.Test.YtlejenoibblhnaaDoorAx0
import Derived.Test.YtlejenoibblhnaaDoorAx13
namespace Go.Proofs.YtlejenoibblhnaaDoor.A
open Go.RowKit Go.Proofs.YtlejenoibblhnaaDoorW.PrintWords Go.Proofs.YtlejenoibblhnaaDoorW.PrintLast Go.Proofs.YtlejenoibblhnaaDoorW.PrintMore
attribute [local go_sem] max2_int min2_int max_two min_two max_three min_three max_four min_four   -- for this text's walks alone
set_option linter.unusedVariables false
set_option linter.unusedSimpArgs false

/-! ### caduceusref02_First: function 34 -/
mutual
def caduceusref02_First.j0 : Nat → ByteArray → Int → Bool → Option (Int × Int)
 | 0, _, _, _ => none
 | k + 1, x0, x3, x25 => if x25 = true then (if 1 < (x0.size : Int) then (some (wrap64 ((wrap64 ((wrap64 (64 * (wrap64 (x3 - 192)))) + (wrap64 (bt x0 1)))) - 128), 2)) else (none)) else (if x3 ≥ 224 then (if x3 < 240 then ((caduceusref02_tail.f x0 1).bind fun t223 => (if t223 = true then ((caduceusref02_tail.f x0 2).bind fun t224 => (caduceusref02_First.j1 k x0 x3 t224)) else (caduceusref02_First.j1 k x0 x3 false))) else (caduceusref02_First.j1 k x0 x3 false)) else (caduceusref02_First.j1 k x0 x3 false))
def caduceusref02_First.j1 : Nat → ByteArray → Int → Bool → Option (Int × Int)
 | 0, _, _, _ => none
 | k + 1, x0, x3, x48 => if x48 = true then (if 1 < (x0.size : Int) then (if 2 < (x0.size : Int) then (if (wrap64 ((wrap64 ((wrap64 ((wrap64 (4096 * (wrap64 (x3 - 224)))) + (wrap64 (64 * (wrap64 ((wrap64 (bt x0 1)) - 128)))))) + (wrap64 (bt x0 2)))) - 128)) ≥ 2048 then (if (wrap64 ((wrap64 ((wrap64 ((wrap64 (4096 * (wrap64 (x3 - 224)))) + (wrap64 (64 * (wrap64 ((wrap64 (bt x0 1)) - 128)))))) + (wrap64 (bt x0 2)))) - 128)) < 55296 then (some (wrap64 ((wrap64 ((wrap64 ((wrap64 (4096 * (wrap64 (x3 - 224)))) + (wrap64 (64 * (wrap64 ((wrap64 (bt x0 1)) - 128)))))) + (wrap64 (bt x0 2)))) - 128), 3)) else (if (wrap64 ((wrap64 ((wrap64 ((wrap64 (4096 * (wrap64 (x3 - 224)))) + (wrap64 (64 * (wrap64 ((wrap64 (bt x0 1)) - 128)))))) + (wrap64 (bt x0 2)))) - 128)) > 57343 then (some (wrap64 ((wrap64 ((wrap64 ((wrap64 (4096 * (wrap64 (x3 - 224)))) + (wrap64 (64 * (wrap64 ((wrap64 (bt x0 1)) - 128)))))) + (wrap64 (bt x0 2)))) - 128), 3)) else (caduceusref02_First.j2 k x0 x3))) else (caduceusref02_First.j2 k x0 x3)) else (none)) else (none)) else (caduceusref02_First.j2 k x0 x3)
def caduceusref02_First.j2 : Nat → ByteArray → Int → Option (Int × Int)
 | 0, _, _ => none
 | k + 1, x0, x3 => if x3 ≥ 240 then (if x3 < 245 then ((caduceusref02_tail.f x0 1).bind fun t225 => (if t225 = true then ((caduceusref02_tail.f x0 2).bind fun t226 => (if t226 = true then ((caduceusref02_tail.f x0 3).bind fun t227 => (caduceusref02_First.j3 k x0 x3 t227)) else (caduceusref02_First.j3 k x0 x3 false))) else (caduceusref02_First.j3 k x0 x3 false))) else (caduceusref02_First.j3 k x0 x3 false)) else (caduceusref02_First.j3 k x0 x3 false)
def caduceusref02_First.j3 : Nat → ByteArray → Int → Bool → Option (Int × Int)
 | 0, _, _, _ => none
 | k + 1, x0, x3, x92 => if x92 = true then (if 1 < (x0.size : Int) then (if 2 < (x0.size : Int) then (if 3 < (x0.size : Int) then (if (wrap64 ((wrap64 ((wrap64 ((wrap64 ((wrap64 (262144 * (wrap64 (x3 - 240)))) + (wrap64 (4096 * (wrap64 ((wrap64 (bt x0 1)) - 128)))))) + (wrap64 (64 * (wrap64 ((wrap64 (bt x0 2)) - 128)))))) + (wrap64 (bt x0 3)))) - 128)) ≥ 65536 then (if (wrap64 ((wrap64 ((wrap64 ((wrap64 ((wrap64 (262144 * (wrap64 (x3 - 240)))) + (wrap64 (4096 * (wrap64 ((wrap64 (bt x0 1)) - 128)))))) + (wrap64 (64 * (wrap64 ((wrap64 (bt x0 2)) - 128)))))) + (wrap64 (bt x0 3)))) - 128)) ≤ 1114111 then (some (wrap64 ((wrap64 ((wrap64 ((wrap64 ((wrap64 (262144 * (wrap64 (x3 - 240)))) + (wrap64 (4096 * (wrap64 ((wrap64 (bt x0 1)) - 128)))))) + (wrap64 (64 * (wrap64 ((wrap64 (bt x0 2)) - 128)))))) + (wrap64 (bt x0 3)))) - 128), 4)) else (some (0, 0))) else (some (0, 0))) else (none)) else (none)) else (none)) else (some (0, 0))
end
def caduceusref02_First.f (k : Nat) (a0 : ByteArray) : Option (Int × Int) := if a0.toList = ([] : List UInt8) then (some (0, 0)) else (if 0 < (a0.size : Int) then (if (wrap64 (bt a0 0)) < 128 then (some (wrap64 (bt a0 0), 1)) else (if (wrap64 (bt a0 0)) ≥ 194 then (if (wrap64 (bt a0 0)) < 224 then ((caduceusref02_tail.f a0 1).bind fun t222 => (caduceusref02_First.j0 k a0 (wrap64 (bt a0 0)) t222)) else (caduceusref02_First.j0 k a0 (wrap64 (bt a0 0)) false)) else (caduceusref02_First.j0 k a0 (wrap64 (bt a0 0)) false))) else (none))
theorem caduceusref02_First.mono_l : ∀ k, (∀ y0 y1 y2, LeO (caduceusref02_First.j0 k y0 y1 y2) (caduceusref02_First.j0 (k + 1) y0 y1 y2)) ∧ (∀ y0 y1 y2, LeO (caduceusref02_First.j1 k y0 y1 y2) (caduceusref02_First.j1 (k + 1) y0 y1 y2)) ∧ (∀ y0 y1, LeO (caduceusref02_First.j2 k y0 y1) (caduceusref02_First.j2 (k + 1) y0 y1)) ∧ (∀ y0 y1 y2, LeO (caduceusref02_First.j3 k y0 y1 y2) (caduceusref02_First.j3 (k + 1) y0 y1 y2))
 | 0 => ⟨fun _ _ _ r h => by simp [caduceusref02_First.j0] at h, fun _ _ _ r h => by simp [caduceusref02_First.j1] at h, fun _ _ r h => by simp [caduceusref02_First.j2] at h, fun _ _ _ r h => by simp [caduceusref02_First.j3] at h⟩
 | k + 1 => by
  obtain ⟨ih0, ih1, ih2, ih3⟩ := caduceusref02_First.mono_l k
  refine ⟨?_, ?_, ?_, ?_⟩
  all_goals intros
  all_goals first | unfold caduceusref02_First.j0 | unfold caduceusref02_First.j1 | unfold caduceusref02_First.j2 | unfold caduceusref02_First.j3
  all_goals repeat' (with_reducible first | exact ih0 _ _ _ | exact ih1 _ _ _ | exact ih2 _ _ | exact ih3 _ _ _ | exact LeO.refl _ | exact LeO.none _ | refine LeO.ite ?_ ?_ | refine LeO.bind ?_ (fun _ => ?_))
theorem caduceusref02_First.mono : ∀ a0 k, LeO (caduceusref02_First.f k a0) (caduceusref02_First.f (k + 1) a0) := by
 intro a0 k
 obtain ⟨ih0, ih1, ih2, ih3⟩ := caduceusref02_First.mono_l k
 unfold caduceusref02_First.f
 repeat' (with_reducible first | exact ih0 _ _ _ | exact ih1 _ _ _ | exact ih2 _ _ | exact ih3 _ _ _ | exact LeO.refl _ | exact LeO.none _ | refine LeO.ite ?_ ?_ | refine LeO.bind ?_ (fun _ => ?_))
set_option maxHeartbeats 8000000 in
set_option maxRecDepth 100000 in
theorem caduceusref02_First.calls (k : Nat) (a0 : ByteArray) (r1 : Int) (r2 : Int) (w : World) (h : caduceusref02_First.f k a0 = some (r1, r2)) :
  Calls Tryd.prog 34 #[.string a0] w fun e w' => e = .returned (.agg #[.int .i64 r1, .int .i64 r2]) ∧ Below w.heap.size w w' := by
 have hu66 := Tryd.underlying66
 have HB := Aside0.mk (Below.refl w.heap.size w)
 unfold caduceusref02_First.f at h
 have H := h
 clear h
 revert H; refine itQ ?L64p ?L64n
 case' L64p =>
  rintro ⟨c2b0, c2b1⟩ H
  obtain ⟨rfl, rfl⟩ := sJ2 H
  have M60 := True.intro
  have M61 := True.intro
 case' L64n =>
  rintro ⟨c2b0, c2b1⟩ c2 H
  replace H := itN H
  obtain ⟨c3, H⟩ := H
  have c3b0 := decide_eq_true c3
  have c3b1 : decide (0 < a0.size) = true := decide_eq_true (by omega)
  clear c3
  revert H; refine itR ?L65p ?L65n
  case' L65p =>
   intro c5 H
   have c5b0 := decide_eq_true c5
   clear c5
   obtain ⟨rfl, rfl⟩ := sJ2 H
   have M60 := True.intro
   have M62 := True.intro
  case' L65n =>
   intro c5 H
   have c5b0 := decide_eq_false c5
   clear c5
   have HC101 := Aside0.mk H
   clear H
   have M63 := True.intro
 all_goals
  case _ =>
   go_enter Tryd.func34, Tryd.ntmps34
   first
    | clear M60
      go_wp2_with (first | ((with_reducible refine gate_dst (N := 2) rfl ?_); refine boxB 2 #[.int .i64 0, .int .i64 0] 66 HB ?_; clear HB; intro gb221 w101 BK221 GW221 GE221 HB; apply stopA; (case other => exact True.intro)))
      case _ =>
       first
        | clear M61
          obtain ⟨hcz102_0, hcz102_1⟩ := cel2 BK221.out
          obtain ⟨hfz102_0, hfz102_1⟩ := frz2 BK221.out
          (try go_wp2_with (fail))
          repeat (go_quiet (first | ((with_reducible refine gate_dst (N := 2) rfl ?_); refine boxA 2 #[.int .i64 0, .int .i64 0] 66 ?_; intro gb221 hg w101 hbox hb; have n0_ := Aside0.mk (below_step (bwA) hb); have n1_ := Aside0.mk (hbox); have n2_ := Aside0.mk (hgW hg : w.heap.size ≤ gb221); have n3_ := Aside0.mk (hgW hg : w.heap.size ≤ gb221); clear HB; have HB := n0_; have BK221 := n1_; have GW221 := n2_; have GE221 := n3_; clear n0_ n1_ n2_ n3_; clear hb hbox hg; have hcz102_0 := celA BK221.out 0 (.int .i64 0); have hcz102_1 := celA BK221.out 1 (.int .i64 0); have hfz102_0 := blk_frozen BK221.out 0; have hfz102_1 := blk_frozen BK221.out 1)); try go_wp2_with (first | ((with_reducible refine gate_dst (N := 2) rfl ?_); refine boxA 2 #[.int .i64 0, .int .i64 0] 66 ?_; intro gb221 hg w101 hbox hb; have n0_ := Aside0.mk (below_step (bwA) hb); have n1_ := Aside0.mk (hbox); have n2_ := Aside0.mk (hgW hg : w.heap.size ≤ gb221); have n3_ := Aside0.mk (hgW hg : w.heap.size ≤ gb221); clear HB; have HB := n0_; have BK221 := n1_; have GW221 := n2_; have GE221 := n3_; clear n0_ n1_ n2_ n3_; clear hb hbox hg; have hcz102_0 := celA BK221.out 0 (.int .i64 0); have hcz102_1 := celA BK221.out 1 (.int .i64 0); have hfz102_0 := blk_frozen BK221.out 0; have hfz102_1 := blk_frozen BK221.out 1)))
          refine bodyPost_ret (results_cell_row rfl _ _ gb221 66 #[.int .i64 0, .int .i64 0] (0, 0) _ rfl blkZ Tryd.underlying66 rfl (by kernel_rfl)) rfl ?_
          exact ⟨endA, bwA⟩
        | clear M62
          have p4 : 0 ≤ (0 : Int) := (by omega)
          have q4 : 0 < a0.size := (by have : (0 : Int) < (a0.size : Int) := odA; omega)
          have hx4 : ∀ h : 0 < a0.size, ((a0[0]'h).toNat : Int) = bt a0 0 := bt_at a0 0
          clear p4
          have qi4 : (0 < (a0.size : Int)) = True := eq_true (odA)
          replace q4 := eq_true q4
          obtain ⟨hcz102_0, hcz102_1⟩ := cel2 BK221.out
          obtain ⟨hfz102_0, hfz102_1⟩ := frz2 BK221.out
          (try go_wp2_with (fail))
          repeat (go_quiet (first | ((with_reducible refine gate_dst (N := 2) rfl ?_); refine boxA 2 #[.int .i64 0, .int .i64 0] 66 ?_; intro gb221 hg w101 hbox hb; have n0_ := Aside0.mk (below_step (bwA) hb); have n1_ := Aside0.mk (hbox); have n2_ := Aside0.mk (hgW hg : w.heap.size ≤ gb221); have n3_ := Aside0.mk (hgW hg : w.heap.size ≤ gb221); clear HB; have HB := n0_; have BK221 := n1_; have GW221 := n2_; have GE221 := n3_; clear n0_ n1_ n2_ n3_; clear hb hbox hg; have p4 : 0 ≤ (0 : Int) := (by omega); have q4 : 0 < a0.size := (by have : (0 : Int) < (a0.size : Int) := odA; omega); have hx4 : ∀ h : 0 < a0.size, ((a0[0]'h).toNat : Int) = bt a0 0 := bt_at a0 0; clear p4; have qi4 : (0 < (a0.size : Int)) = True := eq_true (odA); replace q4 := eq_true q4; have hcz102_0 := celA BK221.out 0 (.int .i64 0); have hcz102_1 := celA BK221.out 1 (.int .i64 0); have hfz102_0 := blk_frozen BK221.out 0; have hfz102_1 := blk_frozen BK221.out 1)); try go_wp2_with (first | ((with_reducible refine gate_dst (N := 2) rfl ?_); refine boxA 2 #[.int .i64 0, .int .i64 0] 66 ?_; intro gb221 hg w101 hbox hb; have n0_ := Aside0.mk (below_step (bwA) hb); have n1_ := Aside0.mk (hbox); have n2_ := Aside0.mk (hgW hg : w.heap.size ≤ gb221); have n3_ := Aside0.mk (hgW hg : w.heap.size ≤ gb221); clear HB; have HB := n0_; have BK221 := n1_; have GW221 := n2_; have GE221 := n3_; clear n0_ n1_ n2_ n3_; clear hb hbox hg; have p4 : 0 ≤ (0 : Int) := (by omega); have q4 : 0 < a0.size := (by have : (0 : Int) < (a0.size : Int) := odA; omega); have hx4 : ∀ h : 0 < a0.size, ((a0[0]'h).toNat : Int) = bt a0 0 := bt_at a0 0; clear p4; have qi4 : (0 < (a0.size : Int)) = True := eq_true (odA); replace q4 := eq_true q4; have hcz102_0 := celA BK221.out 0 (.int .i64 0); have hcz102_1 := celA BK221.out 1 (.int .i64 0); have hfz102_0 := blk_frozen BK221.out 0; have hfz102_1 := blk_frozen BK221.out 1)))
          refine bodyPost_ret (results_cell_row rfl _ _ gb221 66 #[.int .i64 (wrap64 (bt a0 0)), .int .i64 1] (0, 0) _ rfl blkZ Tryd.underlying66 rfl (by kernel_rfl)) rfl ?_
          exact ⟨endA, bwA⟩
    | clear M63
      go_upto_region 6 with (first | ((with_reducible refine gate_dst (N := 2) rfl ?_); refine boxA 2 #[.int .i64 0, .int .i64 0] 66 ?_; intro gb221 hg w102 hbox hb; have n0_ := Aside0.mk (below_step (bwA) hb); have n1_ := Aside0.mk (hbox); have n2_ := Aside0.mk (hgW hg : w.heap.size ≤ gb221); have n3_ := Aside0.mk (hgW hg : w.heap.size ≤ gb221); clear HB; have HB := n0_; have BK221 := n1_; have GW221 := n2_; have GE221 := n3_; clear n0_ n1_ n2_ n3_; clear hb hbox hg; have p4 : 0 ≤ (0 : Int) := (by omega); have q4 : 0 < a0.size := (by have : (0 : Int) < (a0.size : Int) := odA; omega); have hx4 : ∀ h : 0 < a0.size, ((a0[0]'h).toNat : Int) = bt a0 0 := bt_at a0 0; clear p4; have qi4 : (0 < (a0.size : Int)) = True := eq_true (odA); replace q4 := eq_true q4))
      repeat (go_quiet (first | ((with_reducible refine gate_dst (N := 2) rfl ?_); refine boxA 2 #[.int .i64 0, .int .i64 0] 66 ?_; intro gb221 hg w102 hbox hb; have n0_ := Aside0.mk (below_step (bwA) hb); have n1_ := Aside0.mk (hbox); have n2_ := Aside0.mk (hgW hg : w.heap.size ≤ gb221); have n3_ := Aside0.mk (hgW hg : w.heap.size ≤ gb221); clear HB; have HB := n0_; have BK221 := n1_; have GW221 := n2_; have GE221 := n3_; clear n0_ n1_ n2_ n3_; clear hb hbox hg; have p4 : 0 ≤ (0 : Int) := (by omega); have q4 : 0 < a0.size := (by have : (0 : Int) < (a0.size : Int) := odA; omega); have hx4 : ∀ h : 0 < a0.size, ((a0[0]'h).toNat : Int) = bt a0 0 := bt_at a0 0; clear p4; have qi4 : (0 < (a0.size : Int)) = True := eq_true (odA); replace q4 := eq_true q4)); go_upto_region 6 with (first | ((with_reducible refine gate_dst (N := 2) rfl ?_); refine boxA 2 #[.int .i64 0, .int .i64 0] 66 ?_; intro gb221 hg w102 hbox hb; have n0_ := Aside0.mk (below_step (bwA) hb); have n1_ := Aside0.mk (hbox); have n2_ := Aside0.mk (hgW hg : w.heap.size ≤ gb221); have n3_ := Aside0.mk (hgW hg : w.heap.size ≤ gb221); clear HB; have HB := n0_; have BK221 := n1_; have GW221 := n2_; have GE221 := n3_; clear n0_ n1_ n2_ n3_; clear hb hbox hg; have p4 : 0 ≤ (0 : Int) := (by omega); have q4 : 0 < a0.size := (by have : (0 : Int) < (a0.size : Int) := odA; omega); have hx4 : ∀ h : 0 < a0.size, ((a0[0]'h).toNat : Int) = bt a0 0 := bt_at a0 0; clear p4; have qi4 : (0 < (a0.size : Int)) = True := eq_true (odA); replace q4 := eq_true q4)))
      (try simp only [Act.put, List.setIfInBounds_toArray, List.set_cons_zero, List.set_cons_succ])
      go_cut [25] (fun v25 wc => ∃ (kq : Nat) (x25_100 : Bool), v25 = .bool x25_100 ∧ Aside0 (caduceusref02_First.j0 kq a0 (wrap64 (bt a0 0)) x25_100 = some (r1, r2)) ∧ Aside0 (kq ≤ k) ∧ Aside0 (wc.heap[gb221]? = some (.cells #[.int .i64 0, .int .i64 0] 66 (0, 0))) ∧ Aside0 (Below w.heap.size w wc))
      case first =>
       have H := HC101.out
       clear HC101
       revert H; refine itR ?L1p ?L1n
       case' L1p =>
        intro c103 H
        have c103b0 := geT c103
        clear c103
        (first | rw [c103b0] | (simp only [i64_w, i32_w]; rw [c103b0]) | skip)
        revert H; refine itR ?L2p ?L2n
        case' L2p =>
         intro c104 H
         have c104b0 := decide_eq_true c104
         clear c104
         replace H := bnA H
         obtain ⟨t222, A105, H⟩ := H
         have H' := Aside0.mk H
         clear H
         try go_wp2_with (first | (go_at_call 48; (with_reducible refine (caduceusref02_tail.calls _ _ _ _ A105.out).mono ?_); rintro e w' ⟨rfl, ⟨nd, rfl⟩⟩; (try first | exact ⟨rfl, _, World.drewN_drewN _ _ _⟩ | exact ⟨rfl, _, Eq.trans (World.drewN_drewN _ _ _) (congrArg (World.drewN _) (Nat.add_assoc _ _ _))⟩)))
         repeat (go_quiet (first | (go_at_call 48; (with_reducible refine (caduceusref02_tail.calls _ _ _ _ A105.out).mono ?_); rintro e w' ⟨rfl, ⟨nd, rfl⟩⟩; (try first | exact ⟨rfl, _, World.drewN_drewN _ _ _⟩ | exact ⟨rfl, _, Eq.trans (World.drewN_drewN _ _ _) (congrArg (World.drewN _) (Nat.add_assoc _ _ _))⟩))); try go_wp2_with (first | (go_at_call 48; (with_reducible refine (caduceusref02_tail.calls a0 1 t222 _ A105.out).mono ?_); rintro e w' ⟨rfl, ⟨nd, rfl⟩⟩; (try first | exact ⟨rfl, _, World.drewN_drewN _ _ _⟩ | exact ⟨rfl, _, Eq.trans (World.drewN_drewN _ _ _) (congrArg (World.drewN _) (Nat.add_assoc _ _ _))⟩))))
         go_meet
         case rel => exact ⟨_, (t222), (endS), H', ⟨by first | omega | exact Nat.le_refl _⟩, ⟨blkZ⟩, ⟨bwA⟩⟩
        case' L2n =>
         intro c104 H
         have c104b0 := decide_eq_false c104
         clear c104
         have H' := Aside0.mk H
         clear H
       case' L1n =>
        intro c103 H
        have c103b0 := geF c103
        clear c103
        (first | rw [c103b0] | (simp only [i64_w, i32_w]; rw [c103b0]) | skip)
        have H' := Aside0.mk H
        clear H
       all_goals
        case _ =>
         go_wp2
         repeat (go_quiet (fail); try go_wp2)
         go_meet
         case rel => exact ⟨_, (false), (endS), H', ⟨by first | omega | exact Nat.le_refl _⟩, ⟨blkZ⟩, ⟨bwA⟩⟩
      case rest =>
       clear HC101
       try clear c1
       try clear c2
       try clear c2b0
       try clear c2b1
       try clear p2
       try clear c3
       try clear c3b0
       try clear c3b1
       try clear p4
       try clear q4
       try clear hx4
       try clear qi4
       try clear c5
       try clear c5b0
       try clear p6
       try clear c10
       try clear c34
       try clear p64
       try clear hcz102_0
       try clear hcz102_1
       try clear hfz102_0
       try clear hfz102_1
       try clear p4
       try clear q4
       obtain ⟨kq, x25_100, rfl, HA, HJ100, BK221, HB⟩ := hcut
       cases kq with
       | zero => exact absurd HA.out (by simp [caduceusref02_First.j0])
       | succ kj100 =>
        have H := HA.out
        clear HA
        simp only [caduceusref02_First.j0] at H
        revert H; refine itR ?L31p ?L31n
        case' L31p =>
         intro c103 H
         subst c103
         replace H := itN H
         obtain ⟨c104, H⟩ := H
         have c104b0 := decide_eq_true c104
         have c104b1 : decide (1 < a0.size) = true := decide_eq_true (by omega)
         clear c104
         obtain ⟨rfl, rfl⟩ := sJ2 H
         have p105 : 0 ≤ (1 : Int) := (by omega)
         have q105 : 1 < a0.size := (by have : (1 : Int) < (a0.size : Int) := odA; omega)
         have hx105 : ∀ h : 1 < a0.size, ((a0[1]'h).toNat : Int) = bt a0 1 := bt_at a0 1
         clear p105
         have qi105 : (1 < (a0.size : Int)) = True := eq_true (odA)
         replace q105 := eq_true q105
         obtain ⟨hcz201_0, hcz201_1⟩ := cel2 BK221.out
         obtain ⟨hfz201_0, hfz201_1⟩ := frz2 BK221.out
         go_wp2
         repeat (go_quiet (fail); try go_wp2)
         refine bodyPost_ret (results_cell_row rfl _ _ gb221 66 #[.int .i64 (wrap64 ((wrap64 ((wrap64 (64 * (wrap64 ((wrap64 (bt a0 0)) - 192)))) + (wrap64 (bt a0 1)))) - 128)), .int .i64 2] (0, 0) _ rfl blkZ Tryd.underlying66 rfl (by kernel_rfl)) rfl ?_
         exact ⟨endA, bwA⟩
        case' L31n =>
         intro c103 H
         replace c103 := Bool.eq_false_iff.mpr c103
         subst c103
         have HC201 := Aside0.mk H
         clear H
         go_upto_region 8 with (fail)
         repeat (go_quiet (fail); go_upto_region 8 with (fail))
         go_cut [48] (fun v48 wc => ∃ (kq : Nat) (x48_200 : Bool), v48 = .bool x48_200 ∧ Aside0 (caduceusref02_First.j1 kq a0 (wrap64 (bt a0 0)) x48_200 = some (r1, r2)) ∧ Aside0 (kq ≤ kj100) ∧ Aside0 (wc.heap[gb221]? = some (.cells #[.int .i64 0, .int .i64 0] 66 (0, 0))) ∧ Aside0 (Below w.heap.size w wc))
         case first =>
          have H := HC201.out
          clear HC201
          revert H; refine itR ?L36p ?L36n
          case' L36p =>
           intro c202 H
           have c202b0 := geT c202
           clear c202
           (first | rw [c202b0] | (simp only [i64_w, i32_w]; rw [c202b0]) | skip)
           revert H; refine itR ?L37p ?L37n
           case' L37p =>
            intro c203 H
            have c203b0 := decide_eq_true c203
            clear c203
            replace H := bnA H
            obtain ⟨t223, A204, H⟩ := H
            revert H; refine itR ?L38p ?L38n
            case' L38p =>
             intro c205 H
             subst c205
             replace H := bnA H
             obtain ⟨t224, A206, H⟩ := H
             have H' := Aside0.mk H
             clear H
             have M32 := True.intro
             have M33 := True.intro
            case' L38n =>
             intro c205 H
             replace c205 := Bool.eq_false_iff.mpr c205
             subst c205
             have H' := Aside0.mk H
             clear H
             have M32 := True.intro
             have M34 := True.intro
           case' L37n =>
            intro c203 H
            have c203b0 := decide_eq_false c203
            clear c203
            have H' := Aside0.mk H
            clear H
            have M35 := True.intro
          case' L36n =>
           intro c202 H
           have c202b0 := geF c202
           clear c202
           (first | rw [c202b0] | (simp only [i64_w, i32_w]; rw [c202b0]) | skip)
           have H' := Aside0.mk H
           clear H
           have M35 := True.intro
          all_goals
           case _ =>
            first
             | clear M32
               go_wp2_with (first | (go_at_call 48; (with_reducible refine (caduceusref02_tail.calls _ _ _ _ A204.out).mono ?_); rintro e w' ⟨rfl, ⟨nd, rfl⟩⟩; (try first | exact ⟨rfl, _, World.drewN_drewN _ _ _⟩ | exact ⟨rfl, _, Eq.trans (World.drewN_drewN _ _ _) (congrArg (World.drewN _) (Nat.add_assoc _ _ _))⟩); apply stopA; (case other => exact True.intro)))
               case _ =>
                first
                 | clear M33
                   try go_wp2_with (first | (go_at_call 48; (with_reducible refine (caduceusref02_tail.calls _ _ _ _ A206.out).mono ?_); rintro e w' ⟨rfl, ⟨nd, rfl⟩⟩; (try first | exact ⟨rfl, _, World.drewN_drewN _ _ _⟩ | exact ⟨rfl, _, Eq.trans (World.drewN_drewN _ _ _) (congrArg (World.drewN _) (Nat.add_assoc _ _ _))⟩)))
                   repeat (go_quiet (first | (go_at_call 48; (with_reducible refine (caduceusref02_tail.calls _ _ _ _ A204.out).mono ?_); rintro e w' ⟨rfl, ⟨nd, rfl⟩⟩; (try first | exact ⟨rfl, _, World.drewN_drewN _ _ _⟩ | exact ⟨rfl, _, Eq.trans (World.drewN_drewN _ _ _) (congrArg (World.drewN _) (Nat.add_assoc _ _ _))⟩)) | (go_at_call 48; (with_reducible refine (caduceusref02_tail.calls a0 2 t224 _ A206.out).mono ?_); rintro e w' ⟨rfl, ⟨nd, rfl⟩⟩; (try first | exact ⟨rfl, _, World.drewN_drewN _ _ _⟩ | exact ⟨rfl, _, Eq.trans (World.drewN_drewN _ _ _) (congrArg (World.drewN _) (Nat.add_assoc _ _ _))⟩))); try go_wp2_with (first | (go_at_call 48; (with_reducible refine (caduceusref02_tail.calls a0 1 true _ A204.out).mono ?_); rintro e w' ⟨rfl, ⟨nd, rfl⟩⟩; (try first | exact ⟨rfl, _, World.drewN_drewN _ _ _⟩ | exact ⟨rfl, _, Eq.trans (World.drewN_drewN _ _ _) (congrArg (World.drewN _) (Nat.add_assoc _ _ _))⟩)) | (go_at_call 48; (with_reducible refine (caduceusref02_tail.calls a0 2 t224 _ A206.out).mono ?_); rintro e w' ⟨rfl, ⟨nd, rfl⟩⟩; (try first | exact ⟨rfl, _, World.drewN_drewN _ _ _⟩ | exact ⟨rfl, _, Eq.trans (World.drewN_drewN _ _ _) (congrArg (World.drewN _) (Nat.add_assoc _ _ _))⟩))))
                   go_meet
                   case rel => exact ⟨_, (t224), (endS), H', ⟨by have := HJ100.out; first | omega | exact Nat.le_refl _⟩, ⟨blkZ⟩, ⟨bwA⟩⟩
                 | clear M34
                   (try go_wp2_with (fail))
                   repeat (go_quiet (first | (go_at_call 48; (with_reducible refine (caduceusref02_tail.calls _ _ _ _ A204.out).mono ?_); rintro e w' ⟨rfl, ⟨nd, rfl⟩⟩; (try first | exact ⟨rfl, _, World.drewN_drewN _ _ _⟩ | exact ⟨rfl, _, Eq.trans (World.drewN_drewN _ _ _) (congrArg (World.drewN _) (Nat.add_assoc _ _ _))⟩))); try go_wp2_with (first | (go_at_call 48; (with_reducible refine (caduceusref02_tail.calls a0 1 false _ A204.out).mono ?_); rintro e w' ⟨rfl, ⟨nd, rfl⟩⟩; (try first | exact ⟨rfl, _, World.drewN_drewN _ _ _⟩ | exact ⟨rfl, _, Eq.trans (World.drewN_drewN _ _ _) (congrArg (World.drewN _) (Nat.add_assoc _ _ _))⟩))))
                   go_meet
                   case rel => exact ⟨_, (false), (endS), H', ⟨by have := HJ100.out; first | omega | exact Nat.le_refl _⟩, ⟨blkZ⟩, ⟨bwA⟩⟩
             | clear M35
               go_wp2
               repeat (go_quiet (fail); try go_wp2)
               go_meet
               case rel => exact ⟨_, (false), (endS), H', ⟨by have := HJ100.out; first | omega | exact Nat.le_refl _⟩, ⟨blkZ⟩, ⟨bwA⟩⟩
         case rest =>
          clear HC201
          try clear c1
          try clear p1
          try clear q1
          try clear hx1
          try clear qi1
          try clear c2
          try clear c2b0
          try clear c2b1
          try clear p2
          try clear c3
          try clear c3b0
          try clear c3b1
          try clear p4
          try clear q4
          try clear hx4
          try clear qi4
          try clear c5
          try clear c5b0
          try clear p6
          try clear c10
          try clear p10
          try clear q10
          try clear hx10
          try clear qi10
          try clear c20
          try clear c34
          try clear p64
          try clear c103
          try clear c103b0
          try clear c104
          try clear c104b0
          try clear c104b1
          try clear p105
          try clear q105
          try clear hx105
          try clear qi105
          try clear hcz102_0
          try clear hcz102_1
          try clear hcz201_0
          try clear hcz201_1
          try clear hfz102_0
          try clear hfz102_1
          try clear hfz201_0
          try clear hfz201_1
          try clear p105
          try clear p2
          try clear p4
          try clear p6
          try clear p64
          try clear q105
          try clear q4
          obtain ⟨kq, x48_200, rfl, HA, HJ200, BK221, HB⟩ := hcut
          cases kq with
          | zero => exact absurd HA.out (by simp [caduceusref02_First.j1])
          | succ kj200 =>
           have H := HA.out
           clear HA
           simp only [caduceusref02_First.j1] at H
           have HC301 := Aside0.mk H
           clear H
           go_upto_if 48 with (fail)
           repeat (go_quiet (fail); go_upto_if 48 with (fail))
           go_cut [] (fun wc => ∃ (kq : Nat) (x222000_300 : Int) (x222001_300 : Int), Aside0 (caduceusref02_First.j2 kq a0 (wrap64 (bt a0 0)) = some (r1, r2)) ∧ Aside0 (kq ≤ kj200) ∧ Aside0 (wc.heap[gb221]? = some (.cells #[.int .i64 x222000_300, .int .i64 x222001_300] 66 (0, 0))) ∧ Aside0 (Below w.heap.size w wc))
           case first =>
            have H := HC301.out
            clear HC301
            revert H; refine itR ?L41p ?L41n
            case' L41p =>
             intro c302 H
             subst c302
             replace H := itN H
             obtain ⟨c303, H⟩ := H
             have c303b0 := decide_eq_true c303
             have c303b1 : decide (1 < a0.size) = true := decide_eq_true (by omega)
             clear c303
             (first | rw [c303b0] | (simp only [i64_w, i32_w]; rw [c303b0]) | skip)
             replace H := itN H
             obtain ⟨c305, H⟩ := H
             have c305b0 := decide_eq_true c305
             have c305b1 : decide (2 < a0.size) = true := decide_eq_true (by omega)
             clear c305
             revert H; refine itR ?L42p ?L42n
             case' L42p =>
              intro c307 H
              have c307b0 := geT c307
              clear c307
              revert H; refine itR ?L43p ?L43n
              case' L43p =>
               intro c308 H
               have c308b0 := decide_eq_true c308
               clear c308
               obtain ⟨rfl, rfl⟩ := sJ2 H
               have M39 := True.intro
              case' L43n =>
               intro c308 H
               have c308b0 := decide_eq_false c308
               clear c308
               revert H; refine itR ?L44p ?L44n
               case' L44p =>
                intro c309 H
                have c309b0 := gtT c309
                clear c309
                obtain ⟨rfl, rfl⟩ := sJ2 H
                have M39 := True.intro
               case' L44n =>
                intro c309 H
                have c309b0 := gtF c309
                clear c309
                have H' := Aside0.mk H
                clear H
                have M40 := True.intro
             case' L42n =>
              intro c307 H
              have c307b0 := geF c307
              clear c307
              have H' := Aside0.mk H
              clear H
              have M40 := True.intro
            case' L41n =>
             intro c302 H
             replace c302 := Bool.eq_false_iff.mpr c302
             subst c302
             have H' := Aside0.mk H
             clear H
             go_wp2
             repeat (go_quiet (fail); try go_wp2)
             go_meet
             case rel => exact ⟨_, (0), (0), H', ⟨by have := HJ100.out; have := HJ200.out; first | omega | exact Nat.le_refl _⟩, ⟨blkZ⟩, ⟨bwA⟩⟩
            all_goals
             case _ =>
              have p304 : 0 ≤ (1 : Int) := (by omega)
              have q304 : 1 < a0.size := (by have : (1 : Int) < (a0.size : Int) := odA; omega)
              have hx304 : ∀ h : 1 < a0.size, ((a0[1]'h).toNat : Int) = bt a0 1 := bt_at a0 1
              clear p304
              have qi304 : (1 < (a0.size : Int)) = True := eq_true (odA)
              replace q304 := eq_true q304
              have p306 : 0 ≤ (2 : Int) := (by omega)
              have q306 : 2 < a0.size := (by have : (2 : Int) < (a0.size : Int) := odA; omega)
              have hx306 : ∀ h : 2 < a0.size, ((a0[2]'h).toNat : Int) = bt a0 2 := bt_at a0 2
              clear p306
              have qi306 : (2 < (a0.size : Int)) = True := eq_true (odA)
              replace q306 := eq_true q306
              first
               | clear M39
                 obtain ⟨hcz401_0, hcz401_1⟩ := cel2 BK221.out
                 obtain ⟨hfz401_0, hfz401_1⟩ := frz2 BK221.out
                 go_wp2
                 repeat (go_quiet (fail); try go_wp2)
                 refine bodyPost_ret (results_cell_row rfl _ _ gb221 66 #[.int .i64 (wrap64 ((wrap64 ((wrap64 ((wrap64 (4096 * (wrap64 ((wrap64 (bt a0 0)) - 224)))) + (wrap64 (64 * (wrap64 ((wrap64 (bt a0 1)) - 128)))))) + (wrap64 (bt a0 2)))) - 128)), .int .i64 3] (0, 0) _ rfl blkZ Tryd.underlying66 rfl (by kernel_rfl)) rfl ?_
                 exact ⟨endA, bwA⟩
               | clear M40
                 go_wp2
                 repeat (go_quiet (fail); try go_wp2)
                 go_meet
                 case rel => exact ⟨_, (0), (0), H', ⟨by have := HJ100.out; have := HJ200.out; first | omega | exact Nat.le_refl _⟩, ⟨blkZ⟩, ⟨bwA⟩⟩
           case rest =>
            clear HC301
            try clear c1
            try clear p1
            try clear q1
            try clear hx1
            try clear qi1
            try clear c2
            try clear c2b0
            try clear c2b1
            try clear p2
            try clear c3
            try clear c3b0
            try clear c3b1
            try clear p3
            try clear q3
            try clear hx3
            try clear qi3
            try clear p4
            try clear q4
            try clear hx4
            try clear qi4
            try clear c5
            try clear c5b0
            try clear p6
            try clear c10
            try clear p10
            try clear q10
            try clear hx10
            try clear qi10
            try clear c20
            try clear c30
            try clear p30
            try clear q30
            try clear hx30
            try clear qi30
            try clear c34
            try clear p64
            try clear c103
            try clear c103b0
            try clear c104
            try clear c104b0
            try clear c104b1
            try clear p105
            try clear q105
            try clear hx105
            try clear qi105
            try clear c202
            try clear c202b0
            try clear c203
            try clear c203b0
            try clear c205
            try clear hcz102_0
            try clear hcz102_1
            try clear hcz201_0
            try clear hcz201_1
            try clear hcz401_0
            try clear hcz401_1
            try clear hfz102_0
            try clear hfz102_1
            try clear hfz201_0
            try clear hfz201_1
            try clear hfz401_0
            try clear hfz401_1
            try clear p1
            try clear p10
            try clear p105
            try clear p2
            try clear p304
            try clear p306
            try clear p4
            try clear p6
            try clear p64
            try clear q1
            try clear q10
            try clear q105
            try clear q304
            try clear q306
            try clear q4
            obtain ⟨kq, x222000_300, x222001_300, HA, HJ300, BK221, HB⟩ := hcut
            cases kq with
            | zero => exact absurd HA.out (by simp [caduceusref02_First.j2])
            | succ kj300 =>
             have H := HA.out
             clear HA
             simp only [caduceusref02_First.j2] at H
             have HC401 := Aside0.mk H
             clear H
             go_upto_region 12 with (fail)
             repeat (go_quiet (fail); go_upto_region 12 with (fail))
             go_cut [92] (fun v92 wc => ∃ (kq : Nat) (x92_400 : Bool), v92 = .bool x92_400 ∧ Aside0 (caduceusref02_First.j3 kq a0 (wrap64 (bt a0 0)) x92_400 = some (r1, r2)) ∧ Aside0 (kq ≤ kj300) ∧ Aside0 (wc.heap[gb221]? = some (.cells #[.int .i64 x222000_300, .int .i64 x222001_300] 66 (0, 0))) ∧ Aside0 (Below w.heap.size w wc))
             case first =>
              have H := HC401.out
              clear HC401
              revert H; refine itR ?L51p ?L51n
              case' L51p =>
               intro c402 H
               have c402b0 := geT c402
               clear c402
               (first | rw [c402b0] | (simp only [i64_w, i32_w]; rw [c402b0]) | skip)
               revert H; refine itR ?L52p ?L52n
               case' L52p =>
                intro c403 H
                have c403b0 := decide_eq_true c403
                clear c403
                replace H := bnA H
                obtain ⟨t225, A404, H⟩ := H
                revert H; refine itR ?L53p ?L53n
                case' L53p =>
                 intro c405 H
                 subst c405
                 replace H := bnA H
                 obtain ⟨t226, A406, H⟩ := H
                 revert H; refine itR ?L54p ?L54n
                 case' L54p =>
                  intro c407 H
                  subst c407
                  replace H := bnA H
                  obtain ⟨t227, A408, H⟩ := H
                  have H' := Aside0.mk H
                  clear H
                  have M45 := True.intro
                  have M46 := True.intro
                  have M47 := True.intro
                 case' L54n =>
                  intro c407 H
                  replace c407 := Bool.eq_false_iff.mpr c407
                  subst c407
                  have H' := Aside0.mk H
                  clear H
                  have M45 := True.intro
                  have M46 := True.intro
                  have M48 := True.intro
                case' L53n =>
                 intro c405 H
                 replace c405 := Bool.eq_false_iff.mpr c405
                 subst c405
                 have H' := Aside0.mk H
                 clear H
                 have M45 := True.intro
                 have M49 := True.intro
               case' L52n =>
                intro c403 H
                have c403b0 := decide_eq_false c403
                clear c403
                have H' := Aside0.mk H
                clear H
                have M50 := True.intro
              case' L51n =>
               intro c402 H
               have c402b0 := geF c402
               clear c402
               (first | rw [c402b0] | (simp only [i64_w, i32_w]; rw [c402b0]) | skip)
               have H' := Aside0.mk H
               clear H
               have M50 := True.intro
              all_goals
               case _ =>
                first
                 | clear M45
                   go_wp2_with (first | (go_at_call 48; (with_reducible refine (caduceusref02_tail.calls _ _ _ _ A404.out).mono ?_); rintro e w' ⟨rfl, ⟨nd, rfl⟩⟩; (try first | exact ⟨rfl, _, World.drewN_drewN _ _ _⟩ | exact ⟨rfl, _, Eq.trans (World.drewN_drewN _ _ _) (congrArg (World.drewN _) (Nat.add_assoc _ _ _))⟩); apply stopA; (case other => exact True.intro)))
                   case _ =>
                    first
                     | clear M46
                       go_wp2_with (first | (go_at_call 48; (with_reducible refine (caduceusref02_tail.calls _ _ _ _ A406.out).mono ?_); rintro e w' ⟨rfl, ⟨nd, rfl⟩⟩; (try first | exact ⟨rfl, _, World.drewN_drewN _ _ _⟩ | exact ⟨rfl, _, Eq.trans (World.drewN_drewN _ _ _) (congrArg (World.drewN _) (Nat.add_assoc _ _ _))⟩); apply stopA; (case other => exact True.intro)))
                       case _ =>
                        first
                         | clear M47
                           try go_wp2_with (first | (go_at_call 48; (with_reducible refine (caduceusref02_tail.calls _ _ _ _ A408.out).mono ?_); rintro e w' ⟨rfl, ⟨nd, rfl⟩⟩; (try first | exact ⟨rfl, _, World.drewN_drewN _ _ _⟩ | exact ⟨rfl, _, Eq.trans (World.drewN_drewN _ _ _) (congrArg (World.drewN _) (Nat.add_assoc _ _ _))⟩)))
                           repeat (go_quiet (first | (go_at_call 48; (with_reducible refine (caduceusref02_tail.calls _ _ _ _ A404.out).mono ?_); rintro e w' ⟨rfl, ⟨nd, rfl⟩⟩; (try first | exact ⟨rfl, _, World.drewN_drewN _ _ _⟩ | exact ⟨rfl, _, Eq.trans (World.drewN_drewN _ _ _) (congrArg (World.drewN _) (Nat.add_assoc _ _ _))⟩)) | (go_at_call 48; (with_reducible refine (caduceusref02_tail.calls a0 2 true _ A406.out).mono ?_); rintro e w' ⟨rfl, ⟨nd, rfl⟩⟩; (try first | exact ⟨rfl, _, World.drewN_drewN _ _ _⟩ | exact ⟨rfl, _, Eq.trans (World.drewN_drewN _ _ _) (congrArg (World.drewN _) (Nat.add_assoc _ _ _))⟩)) | (go_at_call 48; (with_reducible refine (caduceusref02_tail.calls a0 3 t227 _ A408.out).mono ?_); rintro e w' ⟨rfl, ⟨nd, rfl⟩⟩; (try first | exact ⟨rfl, _, World.drewN_drewN _ _ _⟩ | exact ⟨rfl, _, Eq.trans (World.drewN_drewN _ _ _) (congrArg (World.drewN _) (Nat.add_assoc _ _ _))⟩))); try go_wp2_with (first | (go_at_call 48; (with_reducible refine (caduceusref02_tail.calls a0 1 true _ A404.out).mono ?_); rintro e w' ⟨rfl, ⟨nd, rfl⟩⟩; (try first | exact ⟨rfl, _, World.drewN_drewN _ _ _⟩ | exact ⟨rfl, _, Eq.trans (World.drewN_drewN _ _ _) (congrArg (World.drewN _) (Nat.add_assoc _ _ _))⟩)) | (go_at_call 48; (with_reducible refine (caduceusref02_tail.calls a0 2 true _ A406.out).mono ?_); rintro e w' ⟨rfl, ⟨nd, rfl⟩⟩; (try first | exact ⟨rfl, _, World.drewN_drewN _ _ _⟩ | exact ⟨rfl, _, Eq.trans (World.drewN_drewN _ _ _) (congrArg (World.drewN _) (Nat.add_assoc _ _ _))⟩)) | (go_at_call 48; (with_reducible refine (caduceusref02_tail.calls a0 3 t227 _ A408.out).mono ?_); rintro e w' ⟨rfl, ⟨nd, rfl⟩⟩; (try first | exact ⟨rfl, _, World.drewN_drewN _ _ _⟩ | exact ⟨rfl, _, Eq.trans (World.drewN_drewN _ _ _) (congrArg (World.drewN _) (Nat.add_assoc _ _ _))⟩))))
                           go_meet
                           case rel => exact ⟨_, (t227), (endS), H', ⟨by have := HJ100.out; have := HJ200.out; have := HJ300.out; first | omega | exact Nat.le_refl _⟩, ⟨blkZ⟩, ⟨bwA⟩⟩
                         | clear M48
                           (try go_wp2_with (fail))
                           repeat (go_quiet (first | (go_at_call 48; (with_reducible refine (caduceusref02_tail.calls _ _ _ _ A404.out).mono ?_); rintro e w' ⟨rfl, ⟨nd, rfl⟩⟩; (try first | exact ⟨rfl, _, World.drewN_drewN _ _ _⟩ | exact ⟨rfl, _, Eq.trans (World.drewN_drewN _ _ _) (congrArg (World.drewN _) (Nat.add_assoc _ _ _))⟩)) | (go_at_call 48; (with_reducible refine (caduceusref02_tail.calls a0 2 false _ A406.out).mono ?_); rintro e w' ⟨rfl, ⟨nd, rfl⟩⟩; (try first | exact ⟨rfl, _, World.drewN_drewN _ _ _⟩ | exact ⟨rfl, _, Eq.trans (World.drewN_drewN _ _ _) (congrArg (World.drewN _) (Nat.add_assoc _ _ _))⟩))); try go_wp2_with (first | (go_at_call 48; (with_reducible refine (caduceusref02_tail.calls a0 1 true _ A404.out).mono ?_); rintro e w' ⟨rfl, ⟨nd, rfl⟩⟩; (try first | exact ⟨rfl, _, World.drewN_drewN _ _ _⟩ | exact ⟨rfl, _, Eq.trans (World.drewN_drewN _ _ _) (congrArg (World.drewN _) (Nat.add_assoc _ _ _))⟩)) | (go_at_call 48; (with_reducible refine (caduceusref02_tail.calls a0 2 false _ A406.out).mono ?_); rintro e w' ⟨rfl, ⟨nd, rfl⟩⟩; (try first | exact ⟨rfl, _, World.drewN_drewN _ _ _⟩ | exact ⟨rfl, _, Eq.trans (World.drewN_drewN _ _ _) (congrArg (World.drewN _) (Nat.add_assoc _ _ _))⟩))))
                           go_meet
                           case rel => exact ⟨_, (false), (endS), H', ⟨by have := HJ100.out; have := HJ200.out; have := HJ300.out; first | omega | exact Nat.le_refl _⟩, ⟨blkZ⟩, ⟨bwA⟩⟩
                     | clear M49
                       (try go_wp2_with (fail))
                       repeat (go_quiet (first | (go_at_call 48; (with_reducible refine (caduceusref02_tail.calls _ _ _ _ A404.out).mono ?_); rintro e w' ⟨rfl, ⟨nd, rfl⟩⟩; (try first | exact ⟨rfl, _, World.drewN_drewN _ _ _⟩ | exact ⟨rfl, _, Eq.trans (World.drewN_drewN _ _ _) (congrArg (World.drewN _) (Nat.add_assoc _ _ _))⟩))); try go_wp2_with (first | (go_at_call 48; (with_reducible refine (caduceusref02_tail.calls a0 1 false _ A404.out).mono ?_); rintro e w' ⟨rfl, ⟨nd, rfl⟩⟩; (try first | exact ⟨rfl, _, World.drewN_drewN _ _ _⟩ | exact ⟨rfl, _, Eq.trans (World.drewN_drewN _ _ _) (congrArg (World.drewN _) (Nat.add_assoc _ _ _))⟩))))
                       go_meet
                       case rel => exact ⟨_, (false), (endS), H', ⟨by have := HJ100.out; have := HJ200.out; have := HJ300.out; first | omega | exact Nat.le_refl _⟩, ⟨blkZ⟩, ⟨bwA⟩⟩
                 | clear M50
                   go_wp2
                   repeat (go_quiet (fail); try go_wp2)
                   go_meet
                   case rel => exact ⟨_, (false), (endS), H', ⟨by have := HJ100.out; have := HJ200.out; have := HJ300.out; first | omega | exact Nat.le_refl _⟩, ⟨blkZ⟩, ⟨bwA⟩⟩
             case rest =>
              clear HC401
              try clear c1
              try clear p1
              try clear q1
              try clear hx1
              try clear qi1
              try clear c2
              try clear c2b0
              try clear c2b1
              try clear p2
              try clear c3
              try clear c3b0
              try clear c3b1
              try clear p3
              try clear q3
              try clear hx3
              try clear qi3
              try clear c4
              try clear p4
              try clear q4
              try clear hx4
              try clear qi4
              try clear c5
              try clear c5b0
              try clear p6
              try clear c10
              try clear p10
              try clear q10
              try clear hx10
              try clear qi10
              try clear c20
              try clear c30
              try clear p30
              try clear q30
              try clear hx30
              try clear qi30
              try clear c34
              try clear c40
              try clear p64
              try clear c103
              try clear c103b0
              try clear c104
              try clear c104b0
              try clear c104b1
              try clear p105
              try clear q105
              try clear hx105
              try clear qi105
              try clear c202
              try clear c202b0
              try clear c203
              try clear c203b0
              try clear c205
              try clear c302
              try clear c303
              try clear c303b0
              try clear c303b1
              try clear p304
              try clear q304
              try clear hx304
              try clear qi304
              try clear c305
              try clear c305b0
              try clear c305b1
              try clear p306
              try clear q306
              try clear hx306
              try clear qi306
              try clear c307
              try clear c307b0
              try clear c308
              try clear c308b0
              try clear c309
              try clear c309b0
              try clear hcz102_0
              try clear hcz102_1
              try clear hcz201_0
              try clear hcz201_1
              try clear hcz401_0
              try clear hcz401_1
              try clear hfz102_0
              try clear hfz102_1
              try clear hfz201_0
              try clear hfz201_1
              try clear hfz401_0
              try clear hfz401_1
              try clear p1
              try clear p10
              try clear p105
              try clear p2
              try clear p3
              try clear p30
              try clear p304
              try clear p306
              try clear p4
              try clear p6
              try clear p64
              try clear q1
              try clear q10
              try clear q105
              try clear q3
              try clear q30
              try clear q304
              try clear q306
              try clear q4
              obtain ⟨kq, x92_400, rfl, HA, HJ400, BK221, HB⟩ := hcut
              cases kq with
              | zero => exact absurd HA.out (by simp [caduceusref02_First.j3])
              | succ kj400 =>
               have H := HA.out
               clear HA
               simp only [caduceusref02_First.j3] at H
               revert H; refine itR ?L57p ?L57n
               case' L57p =>
                intro c402 H
                subst c402
                replace H := itN H
                obtain ⟨c403, H⟩ := H
                have c403b0 := decide_eq_true c403
                have c403b1 : decide (1 < a0.size) = true := decide_eq_true (by omega)
                clear c403
                replace H := itN H
                obtain ⟨c405, H⟩ := H
                have c405b0 := decide_eq_true c405
                have c405b1 : decide (2 < a0.size) = true := decide_eq_true (by omega)
                clear c405
                replace H := itN H
                obtain ⟨c407, H⟩ := H
                have c407b0 := decide_eq_true c407
                have c407b1 : decide (3 < a0.size) = true := decide_eq_true (by omega)
                clear c407
                revert H; refine itR ?L58p ?L58n
                case' L58p =>
                 intro c409 H
                 have c409b0 := geT c409
                 clear c409
                 revert H; refine itR ?L59p ?L59n
                 case' L59p =>
                  intro c410 H
                  have c410b0 := decide_eq_true c410
                  clear c410
                  obtain ⟨rfl, rfl⟩ := sJ2 H
                  have M55 := True.intro
                 case' L59n =>
                  intro c410 H
                  have c410b0 := decide_eq_false c410
                  clear c410
                  obtain ⟨rfl, rfl⟩ := sJ2 H
                  have M56 := True.intro
                case' L58n =>
                 intro c409 H
                 have c409b0 := geF c409
                 clear c409
                 obtain ⟨rfl, rfl⟩ := sJ2 H
                 have M56 := True.intro
               case' L57n =>
                intro c402 H
                replace c402 := Bool.eq_false_iff.mpr c402
                subst c402
                obtain ⟨rfl, rfl⟩ := sJ2 H
                obtain ⟨hcz501_0, hcz501_1⟩ := cel2 BK221.out
                obtain ⟨hfz501_0, hfz501_1⟩ := frz2 BK221.out
                go_wp2
                repeat (go_quiet (fail); try go_wp2)
                refine bodyPost_ret (results_cell_row rfl _ _ gb221 66 #[.int .i64 0, .int .i64 0] (0, 0) _ rfl blkZ Tryd.underlying66 rfl (by kernel_rfl)) rfl ?_
                exact ⟨endA, bwA⟩
               all_goals
                case _ =>
                 have p404 : 0 ≤ (1 : Int) := (by omega)
                 have q404 : 1 < a0.size := (by have : (1 : Int) < (a0.size : Int) := odA; omega)
                 have hx404 : ∀ h : 1 < a0.size, ((a0[1]'h).toNat : Int) = bt a0 1 := bt_at a0 1
                 clear p404
                 have qi404 : (1 < (a0.size : Int)) = True := eq_true (odA)
                 replace q404 := eq_true q404
                 have p406 : 0 ≤ (2 : Int) := (by omega)
                 have q406 : 2 < a0.size := (by have : (2 : Int) < (a0.size : Int) := odA; omega)
                 have hx406 : ∀ h : 2 < a0.size, ((a0[2]'h).toNat : Int) = bt a0 2 := bt_at a0 2
                 clear p406
                 have qi406 : (2 < (a0.size : Int)) = True := eq_true (odA)
                 replace q406 := eq_true q406
                 have p408 : 0 ≤ (3 : Int) := (by omega)
                 have q408 : 3 < a0.size := (by have : (3 : Int) < (a0.size : Int) := odA; omega)
                 have hx408 : ∀ h : 3 < a0.size, ((a0[3]'h).toNat : Int) = bt a0 3 := bt_at a0 3
                 clear p408
                 have qi408 : (3 < (a0.size : Int)) = True := eq_true (odA)
                 replace q408 := eq_true q408
                 obtain ⟨hcz501_0, hcz501_1⟩ := cel2 BK221.out
                 obtain ⟨hfz501_0, hfz501_1⟩ := frz2 BK221.out
                 go_wp2
                 repeat (go_quiet (fail); try go_wp2)
                 first
                  | clear M55
                    refine bodyPost_ret (results_cell_row rfl _ _ gb221 66 #[.int .i64 (wrap64 ((wrap64 ((wrap64 ((wrap64 ((wrap64 (262144 * (wrap64 ((wrap64 (bt a0 0)) - 240)))) + (wrap64 (4096 * (wrap64 ((wrap64 (bt a0 1)) - 128)))))) + (wrap64 (64 * (wrap64 ((wrap64 (bt a0 2)) - 128)))))) + (wrap64 (bt a0 3)))) - 128)), .int .i64 4] (0, 0) _ rfl blkZ Tryd.underlying66 rfl (by kernel_rfl)) rfl ?_
                    exact ⟨endA, bwA⟩
                  | clear M56
                    refine bodyPost_ret (results_cell_row rfl _ _ gb221 66 #[.int .i64 0, .int .i64 0] (0, 0) _ rfl blkZ Tryd.underlying66 rfl (by kernel_rfl)) rfl ?_
                    exact ⟨endA, bwA⟩
end Go.Proofs.YtlejenoibblhnaaDoor.A
