import Derived.Test.YtkdndabpaajkaaaGreatDoorAx0
import Derived.Test.YtkdndabpaajkaaaGreatDoorAx11
namespace Go.Proofs.YtkdndabpaajkaaaGreatDoor.A
open Go.RowKit Go.Proofs.YtkdndabpaajkaaaGreatDoorW.PrintWords Go.Proofs.YtkdndabpaajkaaaGreatDoorW.PrintLast Go.Proofs.YtkdndabpaajkaaaGreatDoorW.PrintMore
attribute [local go_sem] max2_int min2_int max_two min_two max_three min_three max_four min_four   -- for this text's walks alone
set_option linter.unusedVariables false
set_option linter.unusedSimpArgs false
set_option maxHeartbeats 8000000
set_option maxRecDepth 100000
mutual
def R02_First.j0 : Nat → ByteArray → Int → Bool → Option (Int × Int)
 | 0, _, _, _ => none
 | k + 1, x0, x3, x25 => if x25 = true then (if 1 < (x0.size : Int) then (some (wrap64 ((wrap64 ((wrap64 (64 * (wrap64 (x3 - 192)))) + (wrap64 (bt x0 1)))) - 128), 2)) else (none)) else (if x3 ≥ 224 then (if x3 < 240 then ((R02_tail.f x0 1).bind fun t318 => (if t318 = true then ((R02_tail.f x0 2).bind fun t319 => (R02_First.j1 k x0 x3 t319)) else (R02_First.j1 k x0 x3 false))) else (R02_First.j1 k x0 x3 false)) else (R02_First.j1 k x0 x3 false))
def R02_First.j1 : Nat → ByteArray → Int → Bool → Option (Int × Int)
 | 0, _, _, _ => none
 | k + 1, x0, x3, x48 => if x48 = true then (if 1 < (x0.size : Int) then (if 2 < (x0.size : Int) then (if (wrap64 ((wrap64 ((wrap64 ((wrap64 (4096 * (wrap64 (x3 - 224)))) + (wrap64 (64 * (wrap64 ((wrap64 (bt x0 1)) - 128)))))) + (wrap64 (bt x0 2)))) - 128)) ≥ 2048 then (if (wrap64 ((wrap64 ((wrap64 ((wrap64 (4096 * (wrap64 (x3 - 224)))) + (wrap64 (64 * (wrap64 ((wrap64 (bt x0 1)) - 128)))))) + (wrap64 (bt x0 2)))) - 128)) < 55296 then (some (wrap64 ((wrap64 ((wrap64 ((wrap64 (4096 * (wrap64 (x3 - 224)))) + (wrap64 (64 * (wrap64 ((wrap64 (bt x0 1)) - 128)))))) + (wrap64 (bt x0 2)))) - 128), 3)) else (if (wrap64 ((wrap64 ((wrap64 ((wrap64 (4096 * (wrap64 (x3 - 224)))) + (wrap64 (64 * (wrap64 ((wrap64 (bt x0 1)) - 128)))))) + (wrap64 (bt x0 2)))) - 128)) > 57343 then (some (wrap64 ((wrap64 ((wrap64 ((wrap64 (4096 * (wrap64 (x3 - 224)))) + (wrap64 (64 * (wrap64 ((wrap64 (bt x0 1)) - 128)))))) + (wrap64 (bt x0 2)))) - 128), 3)) else (R02_First.j2 k x0 x3))) else (R02_First.j2 k x0 x3)) else (none)) else (none)) else (R02_First.j2 k x0 x3)
def R02_First.j2 : Nat → ByteArray → Int → Option (Int × Int)
 | 0, _, _ => none
 | k + 1, x0, x3 => if x3 ≥ 240 then (if x3 < 245 then ((R02_tail.f x0 1).bind fun t320 => (if t320 = true then ((R02_tail.f x0 2).bind fun t321 => (if t321 = true then ((R02_tail.f x0 3).bind fun t322 => (R02_First.j3 k x0 x3 t322)) else (R02_First.j3 k x0 x3 false))) else (R02_First.j3 k x0 x3 false))) else (R02_First.j3 k x0 x3 false)) else (R02_First.j3 k x0 x3 false)
def R02_First.j3 : Nat → ByteArray → Int → Bool → Option (Int × Int)
 | 0, _, _, _ => none
 | k + 1, x0, x3, x92 => if x92 = true then (if 1 < (x0.size : Int) then (if 2 < (x0.size : Int) then (if 3 < (x0.size : Int) then (if (wrap64 ((wrap64 ((wrap64 ((wrap64 ((wrap64 (262144 * (wrap64 (x3 - 240)))) + (wrap64 (4096 * (wrap64 ((wrap64 (bt x0 1)) - 128)))))) + (wrap64 (64 * (wrap64 ((wrap64 (bt x0 2)) - 128)))))) + (wrap64 (bt x0 3)))) - 128)) ≥ 65536 then (if (wrap64 ((wrap64 ((wrap64 ((wrap64 ((wrap64 (262144 * (wrap64 (x3 - 240)))) + (wrap64 (4096 * (wrap64 ((wrap64 (bt x0 1)) - 128)))))) + (wrap64 (64 * (wrap64 ((wrap64 (bt x0 2)) - 128)))))) + (wrap64 (bt x0 3)))) - 128)) ≤ 1114111 then (some (wrap64 ((wrap64 ((wrap64 ((wrap64 ((wrap64 (262144 * (wrap64 (x3 - 240)))) + (wrap64 (4096 * (wrap64 ((wrap64 (bt x0 1)) - 128)))))) + (wrap64 (64 * (wrap64 ((wrap64 (bt x0 2)) - 128)))))) + (wrap64 (bt x0 3)))) - 128), 4)) else (some (0, 0))) else (some (0, 0))) else (none)) else (none)) else (none)) else (some (0, 0))
end
def R02_First.f (k : Nat) (a0 : ByteArray) : Option (Int × Int) := if a0.toList = ([] : List UInt8) then (some (0, 0)) else (if 0 < (a0.size : Int) then (if (wrap64 (bt a0 0)) < 128 then (some (wrap64 (bt a0 0), 1)) else (if (wrap64 (bt a0 0)) ≥ 194 then (if (wrap64 (bt a0 0)) < 224 then ((R02_tail.f a0 1).bind fun t317 => (R02_First.j0 k a0 (wrap64 (bt a0 0)) t317)) else (R02_First.j0 k a0 (wrap64 (bt a0 0)) false)) else (R02_First.j0 k a0 (wrap64 (bt a0 0)) false))) else (none))
theorem R02_First.mono_l : ∀ k, (∀ y0 y1 y2, LeO (R02_First.j0 k y0 y1 y2) (R02_First.j0 (k + 1) y0 y1 y2)) ∧ (∀ y0 y1 y2, LeO (R02_First.j1 k y0 y1 y2) (R02_First.j1 (k + 1) y0 y1 y2)) ∧ (∀ y0 y1, LeO (R02_First.j2 k y0 y1) (R02_First.j2 (k + 1) y0 y1)) ∧ (∀ y0 y1 y2, LeO (R02_First.j3 k y0 y1 y2) (R02_First.j3 (k + 1) y0 y1 y2))
 | 0 => ⟨fun _ _ _ r h => by simp [R02_First.j0] at h, fun _ _ _ r h => by simp [R02_First.j1] at h, fun _ _ r h => by simp [R02_First.j2] at h, fun _ _ _ r h => by simp [R02_First.j3] at h⟩
 | k + 1 => by
  obtain ⟨ih0, ih1, ih2, ih3⟩ := R02_First.mono_l k; refine ⟨?_, ?_, ?_, ?_⟩
  all_goals intros
  all_goals first | unfold R02_First.j0 | unfold R02_First.j1 | unfold R02_First.j2 | unfold R02_First.j3
  all_goals repeat' (with_reducible first | exact ih0 _ _ _ | exact ih1 _ _ _ | exact ih2 _ _ | exact ih3 _ _ _ | exact LeO.refl _ | exact LeO.none _ | refine LeO.ite ?_ ?_ | refine LeO.bind ?_ (fun _ => ?_))
theorem R02_First.mono : ∀ a0 k, LeO (R02_First.f k a0) (R02_First.f (k + 1) a0) := by
 intro a0 k; obtain ⟨ih0, ih1, ih2, ih3⟩ := R02_First.mono_l k; unfold R02_First.f
 repeat' (with_reducible first | exact ih0 _ _ _ | exact ih1 _ _ _ | exact ih2 _ _ | exact ih3 _ _ _ | exact LeO.refl _ | exact LeO.none _ | refine LeO.ite ?_ ?_ | refine LeO.bind ?_ (fun _ => ?_))
theorem R02_First.calls (k : Nat) (a0 : ByteArray) (r1 : Int) (r2 : Int) (w : World) (h : R02_First.f k a0 = some (r1, r2)) :
  Calls Tryz.prog 201 #[.string a0] w fun e w' => e = .returned (.agg #[.int .i64 r1, .int .i64 r2]) ∧ Below w.heap.size w w' := by
 have hu239 := Tryz.underlying239; have HB := aM (Below.refl w.heap.size w); unfold R02_First.f at h; have H := h; clear h; revert H; refine itQ ?L64p ?L64n
 case' L64p =>
  rintro ⟨c2b0, c2b1⟩ H; obtain ⟨rfl, rfl⟩ := sJ2 H; have M60 := trivial; have M61 := trivial
 case' L64n =>
  rintro ⟨c2b0, c2b1⟩ c2 H; replace H := itN H; obtain ⟨c3, H⟩ := H; have c3b0 := dT c3; have c3b1 : decide (0 < a0.size) = true := dT (by omega); clear c3; revert H; refine itR ?L65p ?L65n
  case' L65p =>
   intro c5 H; have c5b0 := dT c5; clear c5; obtain ⟨rfl, rfl⟩ := sJ2 H; have M60 := trivial; have M62 := trivial
  case' L65n =>
   intro c5 H; have c5b0 := dF c5; clear c5; have HC101 := aM H; clear H; have M63 := trivial
 all_goals
  case _ =>
   go_enter Tryz.func201, Tryz.ntmps201
   first
    | clear M60
      go_wp2_with (first | ((with_reducible refine gate_dst (N := 2) rfl ?_); refine boxB 2 #[.int .i64 0, .int .i64 0] 239 HB ?_; clear HB; intro gb316 w101 BK316 GW316 GE316 HB; apply stopA; (case other => exact trivial)))
      case _ =>
       first
        | clear M61
          obtain ⟨hcz102_0, hcz102_1⟩ := cel2 BK316.out; obtain ⟨hfz102_0, hfz102_1⟩ := frz2 BK316.out
          (try go_wp2_with (fail))
          (repeat (go_quiet (first | ((with_reducible refine gate_dst (N := 2) rfl ?_); refine boxA 2 #[.int .i64 0, .int .i64 0] 239 ?_; intro gb316 hg w101 hbox hb; have n0_ := aM (below_step (bwA) hb); have n1_ := aM (hbox); have n2_ := aM (hgW hg : w.heap.size ≤ gb316); have n3_ := aM (hgW hg : w.heap.size ≤ gb316); clear HB; have HB := n0_; have BK316 := n1_; have GW316 := n2_; have GE316 := n3_; clear n0_ n1_ n2_ n3_; clear hb hbox hg; have hcz102_0 := celA BK316.out 0 (.int .i64 0); have hcz102_1 := celA BK316.out 1 (.int .i64 0); have hfz102_0 := blk_frozen BK316.out 0; have hfz102_1 := blk_frozen BK316.out 1)); try go_wp2_with (first | ((with_reducible refine gate_dst (N := 2) rfl ?_); refine boxA 2 #[.int .i64 0, .int .i64 0] 239 ?_; intro gb316 hg w101 hbox hb; have n0_ := aM (below_step (bwA) hb); have n1_ := aM (hbox); have n2_ := aM (hgW hg : w.heap.size ≤ gb316); have n3_ := aM (hgW hg : w.heap.size ≤ gb316); clear HB; have HB := n0_; have BK316 := n1_; have GW316 := n2_; have GE316 := n3_; clear n0_ n1_ n2_ n3_; clear hb hbox hg; have hcz102_0 := celA BK316.out 0 (.int .i64 0); have hcz102_1 := celA BK316.out 1 (.int .i64 0); have hfz102_0 := blk_frozen BK316.out 0; have hfz102_1 := blk_frozen BK316.out 1)))); refine bodyPost_ret (results_cell_row rfl _ _ gb316 239 #[.int .i64 0, .int .i64 0] (0, 0) _ rfl blkZ Tryz.underlying239 rfl (by kernel_rfl)) rfl ?_; exact ⟨endA, bwA⟩
        | clear M62
          have p4 : 0 ≤ (0 : Int) := (by omega); have q4 : 0 < a0.size := (by have : (0 : Int) < (a0.size : Int) := odA; omega); have hx4 : ∀ h : 0 < a0.size, ((a0[0]'h).toNat : Int) = bt a0 0 := bt_at a0 0; clear p4; have qi4 : (0 < (a0.size : Int)) = True := eq_true (odA); replace q4 := eq_true q4; obtain ⟨hcz102_0, hcz102_1⟩ := cel2 BK316.out; obtain ⟨hfz102_0, hfz102_1⟩ := frz2 BK316.out
          (try go_wp2_with (fail))
          (repeat (go_quiet (first | ((with_reducible refine gate_dst (N := 2) rfl ?_); refine boxA 2 #[.int .i64 0, .int .i64 0] 239 ?_; intro gb316 hg w101 hbox hb; have n0_ := aM (below_step (bwA) hb); have n1_ := aM (hbox); have n2_ := aM (hgW hg : w.heap.size ≤ gb316); have n3_ := aM (hgW hg : w.heap.size ≤ gb316); clear HB; have HB := n0_; have BK316 := n1_; have GW316 := n2_; have GE316 := n3_; clear n0_ n1_ n2_ n3_; clear hb hbox hg; have p4 : 0 ≤ (0 : Int) := (by omega); have q4 : 0 < a0.size := (by have : (0 : Int) < (a0.size : Int) := odA; omega); have hx4 : ∀ h : 0 < a0.size, ((a0[0]'h).toNat : Int) = bt a0 0 := bt_at a0 0; clear p4; have qi4 : (0 < (a0.size : Int)) = True := eq_true (odA); replace q4 := eq_true q4; have hcz102_0 := celA BK316.out 0 (.int .i64 0); have hcz102_1 := celA BK316.out 1 (.int .i64 0); have hfz102_0 := blk_frozen BK316.out 0; have hfz102_1 := blk_frozen BK316.out 1)); try go_wp2_with (first | ((with_reducible refine gate_dst (N := 2) rfl ?_); refine boxA 2 #[.int .i64 0, .int .i64 0] 239 ?_; intro gb316 hg w101 hbox hb; have n0_ := aM (below_step (bwA) hb); have n1_ := aM (hbox); have n2_ := aM (hgW hg : w.heap.size ≤ gb316); have n3_ := aM (hgW hg : w.heap.size ≤ gb316); clear HB; have HB := n0_; have BK316 := n1_; have GW316 := n2_; have GE316 := n3_; clear n0_ n1_ n2_ n3_; clear hb hbox hg; have p4 : 0 ≤ (0 : Int) := (by omega); have q4 : 0 < a0.size := (by have : (0 : Int) < (a0.size : Int) := odA; omega); have hx4 : ∀ h : 0 < a0.size, ((a0[0]'h).toNat : Int) = bt a0 0 := bt_at a0 0; clear p4; have qi4 : (0 < (a0.size : Int)) = True := eq_true (odA); replace q4 := eq_true q4; have hcz102_0 := celA BK316.out 0 (.int .i64 0); have hcz102_1 := celA BK316.out 1 (.int .i64 0); have hfz102_0 := blk_frozen BK316.out 0; have hfz102_1 := blk_frozen BK316.out 1)))); refine bodyPost_ret (results_cell_row rfl _ _ gb316 239 #[.int .i64 (wrap64 (bt a0 0)), .int .i64 1] (0, 0) _ rfl blkZ Tryz.underlying239 rfl (by kernel_rfl)) rfl ?_; exact ⟨endA, bwA⟩
    | clear M63
      go_upto_region 6 with (first | ((with_reducible refine gate_dst (N := 2) rfl ?_); refine boxA 2 #[.int .i64 0, .int .i64 0] 239 ?_; intro gb316 hg w102 hbox hb; have n0_ := aM (below_step (bwA) hb); have n1_ := aM (hbox); have n2_ := aM (hgW hg : w.heap.size ≤ gb316); have n3_ := aM (hgW hg : w.heap.size ≤ gb316); clear HB; have HB := n0_; have BK316 := n1_; have GW316 := n2_; have GE316 := n3_; clear n0_ n1_ n2_ n3_; clear hb hbox hg; have p4 : 0 ≤ (0 : Int) := (by omega); have q4 : 0 < a0.size := (by have : (0 : Int) < (a0.size : Int) := odA; omega); have hx4 : ∀ h : 0 < a0.size, ((a0[0]'h).toNat : Int) = bt a0 0 := bt_at a0 0; clear p4; have qi4 : (0 < (a0.size : Int)) = True := eq_true (odA); replace q4 := eq_true q4)); repeat (go_quiet (first | ((with_reducible refine gate_dst (N := 2) rfl ?_); refine boxA 2 #[.int .i64 0, .int .i64 0] 239 ?_; intro gb316 hg w102 hbox hb; have n0_ := aM (below_step (bwA) hb); have n1_ := aM (hbox); have n2_ := aM (hgW hg : w.heap.size ≤ gb316); have n3_ := aM (hgW hg : w.heap.size ≤ gb316); clear HB; have HB := n0_; have BK316 := n1_; have GW316 := n2_; have GE316 := n3_; clear n0_ n1_ n2_ n3_; clear hb hbox hg; have p4 : 0 ≤ (0 : Int) := (by omega); have q4 : 0 < a0.size := (by have : (0 : Int) < (a0.size : Int) := odA; omega); have hx4 : ∀ h : 0 < a0.size, ((a0[0]'h).toNat : Int) = bt a0 0 := bt_at a0 0; clear p4; have qi4 : (0 < (a0.size : Int)) = True := eq_true (odA); replace q4 := eq_true q4)); go_upto_region 6 with (first | ((with_reducible refine gate_dst (N := 2) rfl ?_); refine boxA 2 #[.int .i64 0, .int .i64 0] 239 ?_; intro gb316 hg w102 hbox hb; have n0_ := aM (below_step (bwA) hb); have n1_ := aM (hbox); have n2_ := aM (hgW hg : w.heap.size ≤ gb316); have n3_ := aM (hgW hg : w.heap.size ≤ gb316); clear HB; have HB := n0_; have BK316 := n1_; have GW316 := n2_; have GE316 := n3_; clear n0_ n1_ n2_ n3_; clear hb hbox hg; have p4 : 0 ≤ (0 : Int) := (by omega); have q4 : 0 < a0.size := (by have : (0 : Int) < (a0.size : Int) := odA; omega); have hx4 : ∀ h : 0 < a0.size, ((a0[0]'h).toNat : Int) = bt a0 0 := bt_at a0 0; clear p4; have qi4 : (0 < (a0.size : Int)) = True := eq_true (odA); replace q4 := eq_true q4)))
      (try simp only [Act.put, List.setIfInBounds_toArray, List.set_cons_zero, List.set_cons_succ])
      go_cut [25] (fun v25 wc => ∃ (kq : Nat) (x25_100 : Bool), v25 = .bool x25_100 ∧ Aside0 (R02_First.j0 kq a0 (wrap64 (bt a0 0)) x25_100 = some (r1, r2)) ∧ Aside0 (kq ≤ k) ∧ Aside0 (wc.heap[gb316]? = some (.cells #[.int .i64 0, .int .i64 0] 239 (0, 0))) ∧ Aside0 (Below w.heap.size w wc))
      case first =>
       have H := HC101.out; clear HC101; revert H; refine itR ?L1p ?L1n
       case' L1p =>
        intro c103 H; have c103b0 := geT c103; clear c103
        (first | rw [c103b0] | (simp only [i64_w, i32_w]; rw [c103b0]) | skip)
        revert H; refine itR ?L2p ?L2n
        case' L2p =>
         intro c104 H; have c104b0 := dT c104; clear c104; replace H := bnA H; obtain ⟨t317, A105, H⟩ := H; have H' := aM H; clear H; (try go_wp2_with (first | (go_at_call 240; (with_reducible refine (R02_tail.calls _ _ _ _ A105.out).mono ?_); rintro e w' ⟨rfl, ⟨nd, rfl⟩⟩; (try first | exact ⟨rfl, _, World.drewN_drewN _ _ _⟩ | exact ⟨rfl, _, Eq.trans (World.drewN_drewN _ _ _) (congrArg (World.drewN _) (Nat.add_assoc _ _ _))⟩)))); repeat (go_quiet (first | (go_at_call 240; (with_reducible refine (R02_tail.calls _ _ _ _ A105.out).mono ?_); rintro e w' ⟨rfl, ⟨nd, rfl⟩⟩; (try first | exact ⟨rfl, _, World.drewN_drewN _ _ _⟩ | exact ⟨rfl, _, Eq.trans (World.drewN_drewN _ _ _) (congrArg (World.drewN _) (Nat.add_assoc _ _ _))⟩))); try go_wp2_with (first | (go_at_call 240; (with_reducible refine (R02_tail.calls a0 1 t317 _ A105.out).mono ?_); rintro e w' ⟨rfl, ⟨nd, rfl⟩⟩; (try first | exact ⟨rfl, _, World.drewN_drewN _ _ _⟩ | exact ⟨rfl, _, Eq.trans (World.drewN_drewN _ _ _) (congrArg (World.drewN _) (Nat.add_assoc _ _ _))⟩))))
         go_meet
         case rel => exact ⟨_, (t317), (endS), H', ⟨by first | omega | exact Nat.le_refl _⟩, ⟨blkZ⟩, ⟨bwA⟩⟩
        case' L2n =>
         intro c104 H; have c104b0 := dF c104; clear c104; have H' := aM H; clear H
       case' L1n =>
        intro c103 H; have c103b0 := geF c103; clear c103
        (first | rw [c103b0] | (simp only [i64_w, i32_w]; rw [c103b0]) | skip)
        have H' := aM H; clear H
       all_goals
        case _ =>
         go_wp2; repeat (go_quiet (fail); try go_wp2)
         go_meet
         case rel => exact ⟨_, (false), (endS), H', ⟨by first | omega | exact Nat.le_refl _⟩, ⟨blkZ⟩, ⟨bwA⟩⟩
      case rest =>
       clear HC101; (try clear c1); (try clear c2); (try clear c2b0); (try clear c2b1); (try clear p2); (try clear c3); (try clear c3b0); (try clear c3b1); (try clear p4); (try clear q4); (try clear hx4); (try clear qi4); (try clear c5); (try clear c5b0); (try clear p6); (try clear c10); (try clear c20); (try clear p64); (try clear hcz102_0); (try clear hcz102_1); (try clear hfz102_0); (try clear hfz102_1); (try clear p4); (try clear q4); obtain ⟨kq, x25_100, rfl, HA, HJ100, BK316, HB⟩ := hcut
       cases kq with
       | zero => exact absurd HA.out (by simp [R02_First.j0])
       | succ kj100 =>
        have H := HA.out; clear HA; simp only [R02_First.j0] at H; revert H; refine itR ?L31p ?L31n
        case' L31p =>
         intro c103 H; subst c103; replace H := itN H; obtain ⟨c104, H⟩ := H; have c104b0 := dT c104; have c104b1 : decide (1 < a0.size) = true := dT (by omega); clear c104; obtain ⟨rfl, rfl⟩ := sJ2 H; have p105 : 0 ≤ (1 : Int) := (by omega); have q105 : 1 < a0.size := (by have : (1 : Int) < (a0.size : Int) := odA; omega); have hx105 : ∀ h : 1 < a0.size, ((a0[1]'h).toNat : Int) = bt a0 1 := bt_at a0 1; clear p105; have qi105 : (1 < (a0.size : Int)) = True := eq_true (odA); replace q105 := eq_true q105; obtain ⟨hcz201_0, hcz201_1⟩ := cel2 BK316.out; obtain ⟨hfz201_0, hfz201_1⟩ := frz2 BK316.out; go_wp2; (repeat (go_quiet (fail); try go_wp2)); refine bodyPost_ret (results_cell_row rfl _ _ gb316 239 #[.int .i64 (wrap64 ((wrap64 ((wrap64 (64 * (wrap64 ((wrap64 (bt a0 0)) - 192)))) + (wrap64 (bt a0 1)))) - 128)), .int .i64 2] (0, 0) _ rfl blkZ Tryz.underlying239 rfl (by kernel_rfl)) rfl ?_; exact ⟨endA, bwA⟩
        case' L31n =>
         intro c103 H; replace c103 := Bool.eq_false_iff.mpr c103; subst c103; have HC201 := aM H; clear H; go_upto_region 8 with (fail); (repeat (go_quiet (fail); go_upto_region 8 with (fail))); go_cut [48] (fun v48 wc => ∃ (kq : Nat) (x48_200 : Bool), v48 = .bool x48_200 ∧ Aside0 (R02_First.j1 kq a0 (wrap64 (bt a0 0)) x48_200 = some (r1, r2)) ∧ Aside0 (kq ≤ kj100) ∧ Aside0 (wc.heap[gb316]? = some (.cells #[.int .i64 0, .int .i64 0] 239 (0, 0))) ∧ Aside0 (Below w.heap.size w wc))
         case first =>
          have H := HC201.out; clear HC201; revert H; refine itR ?L36p ?L36n
          case' L36p =>
           intro c202 H; have c202b0 := geT c202; clear c202
           (first | rw [c202b0] | (simp only [i64_w, i32_w]; rw [c202b0]) | skip)
           revert H; refine itR ?L37p ?L37n
           case' L37p =>
            intro c203 H; have c203b0 := dT c203; clear c203; replace H := bnA H; obtain ⟨t318, A204, H⟩ := H; revert H; refine itR ?L38p ?L38n
            case' L38p =>
             intro c205 H; subst c205; replace H := bnA H; obtain ⟨t319, A206, H⟩ := H; have H' := aM H; clear H; have M32 := trivial; have M33 := trivial
            case' L38n =>
             intro c205 H; replace c205 := Bool.eq_false_iff.mpr c205; subst c205; have H' := aM H; clear H; have M32 := trivial; have M34 := trivial
           case' L37n =>
            intro c203 H; have c203b0 := dF c203; clear c203; have H' := aM H; clear H; have M35 := trivial
          case' L36n =>
           intro c202 H; have c202b0 := geF c202; clear c202
           (first | rw [c202b0] | (simp only [i64_w, i32_w]; rw [c202b0]) | skip)
           have H' := aM H; clear H; have M35 := trivial
          all_goals
           case _ =>
            first
             | clear M32
               go_wp2_with (first | (go_at_call 240; (with_reducible refine (R02_tail.calls _ _ _ _ A204.out).mono ?_); rintro e w' ⟨rfl, ⟨nd, rfl⟩⟩; (try first | exact ⟨rfl, _, World.drewN_drewN _ _ _⟩ | exact ⟨rfl, _, Eq.trans (World.drewN_drewN _ _ _) (congrArg (World.drewN _) (Nat.add_assoc _ _ _))⟩); apply stopA; (case other => exact trivial)))
               case _ =>
                first
                 | clear M33
                   (try go_wp2_with (first | (go_at_call 240; (with_reducible refine (R02_tail.calls _ _ _ _ A206.out).mono ?_); rintro e w' ⟨rfl, ⟨nd, rfl⟩⟩; (try first | exact ⟨rfl, _, World.drewN_drewN _ _ _⟩ | exact ⟨rfl, _, Eq.trans (World.drewN_drewN _ _ _) (congrArg (World.drewN _) (Nat.add_assoc _ _ _))⟩)))); repeat (go_quiet (first | (go_at_call 240; (with_reducible refine (R02_tail.calls _ _ _ _ A204.out).mono ?_); rintro e w' ⟨rfl, ⟨nd, rfl⟩⟩; (try first | exact ⟨rfl, _, World.drewN_drewN _ _ _⟩ | exact ⟨rfl, _, Eq.trans (World.drewN_drewN _ _ _) (congrArg (World.drewN _) (Nat.add_assoc _ _ _))⟩)) | (go_at_call 240; (with_reducible refine (R02_tail.calls a0 2 t319 _ A206.out).mono ?_); rintro e w' ⟨rfl, ⟨nd, rfl⟩⟩; (try first | exact ⟨rfl, _, World.drewN_drewN _ _ _⟩ | exact ⟨rfl, _, Eq.trans (World.drewN_drewN _ _ _) (congrArg (World.drewN _) (Nat.add_assoc _ _ _))⟩))); try go_wp2_with (first | (go_at_call 240; (with_reducible refine (R02_tail.calls a0 1 true _ A204.out).mono ?_); rintro e w' ⟨rfl, ⟨nd, rfl⟩⟩; (try first | exact ⟨rfl, _, World.drewN_drewN _ _ _⟩ | exact ⟨rfl, _, Eq.trans (World.drewN_drewN _ _ _) (congrArg (World.drewN _) (Nat.add_assoc _ _ _))⟩)) | (go_at_call 240; (with_reducible refine (R02_tail.calls a0 2 t319 _ A206.out).mono ?_); rintro e w' ⟨rfl, ⟨nd, rfl⟩⟩; (try first | exact ⟨rfl, _, World.drewN_drewN _ _ _⟩ | exact ⟨rfl, _, Eq.trans (World.drewN_drewN _ _ _) (congrArg (World.drewN _) (Nat.add_assoc _ _ _))⟩))))
                   go_meet
                   case rel => exact ⟨_, (t319), (endS), H', ⟨by have := HJ100.out; first | omega | exact Nat.le_refl _⟩, ⟨blkZ⟩, ⟨bwA⟩⟩
                 | clear M34
                   (try go_wp2_with (fail))
                   repeat (go_quiet (first | (go_at_call 240; (with_reducible refine (R02_tail.calls _ _ _ _ A204.out).mono ?_); rintro e w' ⟨rfl, ⟨nd, rfl⟩⟩; (try first | exact ⟨rfl, _, World.drewN_drewN _ _ _⟩ | exact ⟨rfl, _, Eq.trans (World.drewN_drewN _ _ _) (congrArg (World.drewN _) (Nat.add_assoc _ _ _))⟩))); try go_wp2_with (first | (go_at_call 240; (with_reducible refine (R02_tail.calls a0 1 false _ A204.out).mono ?_); rintro e w' ⟨rfl, ⟨nd, rfl⟩⟩; (try first | exact ⟨rfl, _, World.drewN_drewN _ _ _⟩ | exact ⟨rfl, _, Eq.trans (World.drewN_drewN _ _ _) (congrArg (World.drewN _) (Nat.add_assoc _ _ _))⟩))))
                   go_meet
                   case rel => exact ⟨_, (false), (endS), H', ⟨by have := HJ100.out; first | omega | exact Nat.le_refl _⟩, ⟨blkZ⟩, ⟨bwA⟩⟩
             | clear M35
               go_wp2; repeat (go_quiet (fail); try go_wp2)
               go_meet
               case rel => exact ⟨_, (false), (endS), H', ⟨by have := HJ100.out; first | omega | exact Nat.le_refl _⟩, ⟨blkZ⟩, ⟨bwA⟩⟩
         case rest =>
          clear HC201; (try clear c1); (try clear p1); (try clear q1); (try clear hx1); (try clear qi1); (try clear c2); (try clear c2b0); (try clear c2b1); (try clear p2); (try clear c3); (try clear c3b0); (try clear c3b1); (try clear p4); (try clear q4); (try clear hx4); (try clear qi4); (try clear c5); (try clear c5b0); (try clear p6); (try clear c10); (try clear p10); (try clear q10); (try clear hx10); (try clear qi10); (try clear c20); (try clear p64); (try clear c103); (try clear c103b0); (try clear c104); (try clear c104b0); (try clear c104b1); (try clear p105); (try clear q105); (try clear hx105); (try clear qi105); (try clear c201); (try clear hcz102_0); (try clear hcz102_1); (try clear hcz201_0); (try clear hcz201_1); (try clear hfz102_0); (try clear hfz102_1); (try clear hfz201_0); (try clear hfz201_1); (try clear p105); (try clear p2); (try clear p4); (try clear p6); (try clear p64); (try clear q105); (try clear q4); obtain ⟨kq, x48_200, rfl, HA, HJ200, BK316, HB⟩ := hcut
          cases kq with
          | zero => exact absurd HA.out (by simp [R02_First.j1])
          | succ kj200 =>
           have H := HA.out; clear HA; simp only [R02_First.j1] at H; have HC301 := aM H; clear H
           go_upto_if 48 with (fail)
           (repeat (go_quiet (fail); go_upto_if 48 with (fail))); go_cut [] (fun wc => ∃ (kq : Nat) (x317000_300 : Int) (x317001_300 : Int), Aside0 (R02_First.j2 kq a0 (wrap64 (bt a0 0)) = some (r1, r2)) ∧ Aside0 (kq ≤ kj200) ∧ Aside0 (wc.heap[gb316]? = some (.cells #[.int .i64 x317000_300, .int .i64 x317001_300] 239 (0, 0))) ∧ Aside0 (Below w.heap.size w wc))
           case first =>
            have H := HC301.out; clear HC301; revert H; refine itR ?L41p ?L41n
            case' L41p =>
             intro c302 H; subst c302; replace H := itN H; obtain ⟨c303, H⟩ := H; have c303b0 := dT c303; have c303b1 : decide (1 < a0.size) = true := dT (by omega); clear c303
             (first | rw [c303b0] | (simp only [i64_w, i32_w]; rw [c303b0]) | skip)
             replace H := itN H; obtain ⟨c305, H⟩ := H; have c305b0 := dT c305; have c305b1 : decide (2 < a0.size) = true := dT (by omega); clear c305; revert H; refine itR ?L42p ?L42n
             case' L42p =>
              intro c307 H; have c307b0 := geT c307; clear c307; revert H; refine itR ?L43p ?L43n
              case' L43p =>
               intro c308 H; have c308b0 := dT c308; clear c308; obtain ⟨rfl, rfl⟩ := sJ2 H; have M39 := trivial
              case' L43n =>
               intro c308 H; have c308b0 := dF c308; clear c308; revert H; refine itR ?L44p ?L44n
               case' L44p =>
                intro c309 H; have c309b0 := gtT c309; clear c309; obtain ⟨rfl, rfl⟩ := sJ2 H; have M39 := trivial
               case' L44n =>
                intro c309 H; have c309b0 := gtF c309; clear c309; have H' := aM H; clear H; have M40 := trivial
             case' L42n =>
              intro c307 H; have c307b0 := geF c307; clear c307; have H' := aM H; clear H; have M40 := trivial
            case' L41n =>
             intro c302 H; replace c302 := Bool.eq_false_iff.mpr c302; subst c302; have H' := aM H; clear H; go_wp2; repeat (go_quiet (fail); try go_wp2)
             go_meet
             case rel => exact ⟨_, (0), (0), H', ⟨by have := HJ100.out; have := HJ200.out; first | omega | exact Nat.le_refl _⟩, ⟨blkZ⟩, ⟨bwA⟩⟩
            all_goals
             case _ =>
              have p304 : 0 ≤ (1 : Int) := (by omega); have q304 : 1 < a0.size := (by have : (1 : Int) < (a0.size : Int) := odA; omega); have hx304 : ∀ h : 1 < a0.size, ((a0[1]'h).toNat : Int) = bt a0 1 := bt_at a0 1; clear p304; have qi304 : (1 < (a0.size : Int)) = True := eq_true (odA); replace q304 := eq_true q304; have p306 : 0 ≤ (2 : Int) := (by omega); have q306 : 2 < a0.size := (by have : (2 : Int) < (a0.size : Int) := odA; omega); have hx306 : ∀ h : 2 < a0.size, ((a0[2]'h).toNat : Int) = bt a0 2 := bt_at a0 2; clear p306; have qi306 : (2 < (a0.size : Int)) = True := eq_true (odA); replace q306 := eq_true q306
              first
               | clear M39
                 obtain ⟨hcz401_0, hcz401_1⟩ := cel2 BK316.out; obtain ⟨hfz401_0, hfz401_1⟩ := frz2 BK316.out; go_wp2; (repeat (go_quiet (fail); try go_wp2)); refine bodyPost_ret (results_cell_row rfl _ _ gb316 239 #[.int .i64 (wrap64 ((wrap64 ((wrap64 ((wrap64 (4096 * (wrap64 ((wrap64 (bt a0 0)) - 224)))) + (wrap64 (64 * (wrap64 ((wrap64 (bt a0 1)) - 128)))))) + (wrap64 (bt a0 2)))) - 128)), .int .i64 3] (0, 0) _ rfl blkZ Tryz.underlying239 rfl (by kernel_rfl)) rfl ?_; exact ⟨endA, bwA⟩
               | clear M40
                 go_wp2; repeat (go_quiet (fail); try go_wp2)
                 go_meet
                 case rel => exact ⟨_, (0), (0), H', ⟨by have := HJ100.out; have := HJ200.out; first | omega | exact Nat.le_refl _⟩, ⟨blkZ⟩, ⟨bwA⟩⟩
           case rest =>
            clear HC301; (try clear c1); (try clear p1); (try clear q1); (try clear hx1); (try clear qi1); (try clear c2); (try clear c2b0); (try clear c2b1); (try clear p2); (try clear c3); (try clear c3b0); (try clear c3b1); (try clear p3); (try clear q3); (try clear hx3); (try clear qi3); (try clear p4); (try clear q4); (try clear hx4); (try clear qi4); (try clear c5); (try clear c5b0); (try clear p6); (try clear c10); (try clear p10); (try clear q10); (try clear hx10); (try clear qi10); (try clear c20); (try clear c30); (try clear p30); (try clear q30); (try clear hx30); (try clear qi30); (try clear p64); (try clear c103); (try clear c103b0); (try clear c104); (try clear c104b0); (try clear c104b1); (try clear p105); (try clear q105); (try clear hx105); (try clear qi105); (try clear c201); (try clear c202); (try clear c202b0); (try clear c203); (try clear c203b0); (try clear c205); (try clear hcz102_0); (try clear hcz102_1); (try clear hcz201_0); (try clear hcz201_1); (try clear hcz401_0); (try clear hcz401_1); (try clear hfz102_0); (try clear hfz102_1); (try clear hfz201_0); (try clear hfz201_1); (try clear hfz401_0); (try clear hfz401_1); (try clear p1); (try clear p10); (try clear p105); (try clear p2); (try clear p304); (try clear p306); (try clear p4); (try clear p6); (try clear p64); (try clear q1); (try clear q10); (try clear q105); (try clear q304); (try clear q306); (try clear q4); obtain ⟨kq, x317000_300, x317001_300, HA, HJ300, BK316, HB⟩ := hcut
            cases kq with
            | zero => exact absurd HA.out (by simp [R02_First.j2])
            | succ kj300 =>
             have H := HA.out; clear HA; simp only [R02_First.j2] at H; have HC401 := aM H; clear H; go_upto_region 12 with (fail); (repeat (go_quiet (fail); go_upto_region 12 with (fail))); go_cut [92] (fun v92 wc => ∃ (kq : Nat) (x92_400 : Bool), v92 = .bool x92_400 ∧ Aside0 (R02_First.j3 kq a0 (wrap64 (bt a0 0)) x92_400 = some (r1, r2)) ∧ Aside0 (kq ≤ kj300) ∧ Aside0 (wc.heap[gb316]? = some (.cells #[.int .i64 x317000_300, .int .i64 x317001_300] 239 (0, 0))) ∧ Aside0 (Below w.heap.size w wc))
             case first =>
              have H := HC401.out; clear HC401; revert H; refine itR ?L51p ?L51n
              case' L51p =>
               intro c402 H; have c402b0 := geT c402; clear c402
               (first | rw [c402b0] | (simp only [i64_w, i32_w]; rw [c402b0]) | skip)
               revert H; refine itR ?L52p ?L52n
               case' L52p =>
                intro c403 H; have c403b0 := dT c403; clear c403; replace H := bnA H; obtain ⟨t320, A404, H⟩ := H; revert H; refine itR ?L53p ?L53n
                case' L53p =>
                 intro c405 H; subst c405; replace H := bnA H; obtain ⟨t321, A406, H⟩ := H; revert H; refine itR ?L54p ?L54n
                 case' L54p =>
                  intro c407 H; subst c407; replace H := bnA H; obtain ⟨t322, A408, H⟩ := H; have H' := aM H; clear H; have M45 := trivial; have M46 := trivial; have M47 := trivial
                 case' L54n =>
                  intro c407 H; replace c407 := Bool.eq_false_iff.mpr c407; subst c407; have H' := aM H; clear H; have M45 := trivial; have M46 := trivial; have M48 := trivial
                case' L53n =>
                 intro c405 H; replace c405 := Bool.eq_false_iff.mpr c405; subst c405; have H' := aM H; clear H; have M45 := trivial; have M49 := trivial
               case' L52n =>
                intro c403 H; have c403b0 := dF c403; clear c403; have H' := aM H; clear H; have M50 := trivial
              case' L51n =>
               intro c402 H; have c402b0 := geF c402; clear c402
               (first | rw [c402b0] | (simp only [i64_w, i32_w]; rw [c402b0]) | skip)
               have H' := aM H; clear H; have M50 := trivial
              all_goals
               case _ =>
                first
                 | clear M45
                   go_wp2_with (first | (go_at_call 240; (with_reducible refine (R02_tail.calls _ _ _ _ A404.out).mono ?_); rintro e w' ⟨rfl, ⟨nd, rfl⟩⟩; (try first | exact ⟨rfl, _, World.drewN_drewN _ _ _⟩ | exact ⟨rfl, _, Eq.trans (World.drewN_drewN _ _ _) (congrArg (World.drewN _) (Nat.add_assoc _ _ _))⟩); apply stopA; (case other => exact trivial)))
                   case _ =>
                    first
                     | clear M46
                       go_wp2_with (first | (go_at_call 240; (with_reducible refine (R02_tail.calls _ _ _ _ A406.out).mono ?_); rintro e w' ⟨rfl, ⟨nd, rfl⟩⟩; (try first | exact ⟨rfl, _, World.drewN_drewN _ _ _⟩ | exact ⟨rfl, _, Eq.trans (World.drewN_drewN _ _ _) (congrArg (World.drewN _) (Nat.add_assoc _ _ _))⟩); apply stopA; (case other => exact trivial)))
                       case _ =>
                        first
                         | clear M47
                           (try go_wp2_with (first | (go_at_call 240; (with_reducible refine (R02_tail.calls _ _ _ _ A408.out).mono ?_); rintro e w' ⟨rfl, ⟨nd, rfl⟩⟩; (try first | exact ⟨rfl, _, World.drewN_drewN _ _ _⟩ | exact ⟨rfl, _, Eq.trans (World.drewN_drewN _ _ _) (congrArg (World.drewN _) (Nat.add_assoc _ _ _))⟩)))); repeat (go_quiet (first | (go_at_call 240; (with_reducible refine (R02_tail.calls _ _ _ _ A404.out).mono ?_); rintro e w' ⟨rfl, ⟨nd, rfl⟩⟩; (try first | exact ⟨rfl, _, World.drewN_drewN _ _ _⟩ | exact ⟨rfl, _, Eq.trans (World.drewN_drewN _ _ _) (congrArg (World.drewN _) (Nat.add_assoc _ _ _))⟩)) | (go_at_call 240; (with_reducible refine (R02_tail.calls a0 2 true _ A406.out).mono ?_); rintro e w' ⟨rfl, ⟨nd, rfl⟩⟩; (try first | exact ⟨rfl, _, World.drewN_drewN _ _ _⟩ | exact ⟨rfl, _, Eq.trans (World.drewN_drewN _ _ _) (congrArg (World.drewN _) (Nat.add_assoc _ _ _))⟩)) | (go_at_call 240; (with_reducible refine (R02_tail.calls a0 3 t322 _ A408.out).mono ?_); rintro e w' ⟨rfl, ⟨nd, rfl⟩⟩; (try first | exact ⟨rfl, _, World.drewN_drewN _ _ _⟩ | exact ⟨rfl, _, Eq.trans (World.drewN_drewN _ _ _) (congrArg (World.drewN _) (Nat.add_assoc _ _ _))⟩))); try go_wp2_with (first | (go_at_call 240; (with_reducible refine (R02_tail.calls a0 1 true _ A404.out).mono ?_); rintro e w' ⟨rfl, ⟨nd, rfl⟩⟩; (try first | exact ⟨rfl, _, World.drewN_drewN _ _ _⟩ | exact ⟨rfl, _, Eq.trans (World.drewN_drewN _ _ _) (congrArg (World.drewN _) (Nat.add_assoc _ _ _))⟩)) | (go_at_call 240; (with_reducible refine (R02_tail.calls a0 2 true _ A406.out).mono ?_); rintro e w' ⟨rfl, ⟨nd, rfl⟩⟩; (try first | exact ⟨rfl, _, World.drewN_drewN _ _ _⟩ | exact ⟨rfl, _, Eq.trans (World.drewN_drewN _ _ _) (congrArg (World.drewN _) (Nat.add_assoc _ _ _))⟩)) | (go_at_call 240; (with_reducible refine (R02_tail.calls a0 3 t322 _ A408.out).mono ?_); rintro e w' ⟨rfl, ⟨nd, rfl⟩⟩; (try first | exact ⟨rfl, _, World.drewN_drewN _ _ _⟩ | exact ⟨rfl, _, Eq.trans (World.drewN_drewN _ _ _) (congrArg (World.drewN _) (Nat.add_assoc _ _ _))⟩))))
                           go_meet
                           case rel => exact ⟨_, (t322), (endS), H', ⟨by have := HJ100.out; have := HJ200.out; have := HJ300.out; first | omega | exact Nat.le_refl _⟩, ⟨blkZ⟩, ⟨bwA⟩⟩
                         | clear M48
                           (try go_wp2_with (fail))
                           repeat (go_quiet (first | (go_at_call 240; (with_reducible refine (R02_tail.calls _ _ _ _ A404.out).mono ?_); rintro e w' ⟨rfl, ⟨nd, rfl⟩⟩; (try first | exact ⟨rfl, _, World.drewN_drewN _ _ _⟩ | exact ⟨rfl, _, Eq.trans (World.drewN_drewN _ _ _) (congrArg (World.drewN _) (Nat.add_assoc _ _ _))⟩)) | (go_at_call 240; (with_reducible refine (R02_tail.calls a0 2 false _ A406.out).mono ?_); rintro e w' ⟨rfl, ⟨nd, rfl⟩⟩; (try first | exact ⟨rfl, _, World.drewN_drewN _ _ _⟩ | exact ⟨rfl, _, Eq.trans (World.drewN_drewN _ _ _) (congrArg (World.drewN _) (Nat.add_assoc _ _ _))⟩))); try go_wp2_with (first | (go_at_call 240; (with_reducible refine (R02_tail.calls a0 1 true _ A404.out).mono ?_); rintro e w' ⟨rfl, ⟨nd, rfl⟩⟩; (try first | exact ⟨rfl, _, World.drewN_drewN _ _ _⟩ | exact ⟨rfl, _, Eq.trans (World.drewN_drewN _ _ _) (congrArg (World.drewN _) (Nat.add_assoc _ _ _))⟩)) | (go_at_call 240; (with_reducible refine (R02_tail.calls a0 2 false _ A406.out).mono ?_); rintro e w' ⟨rfl, ⟨nd, rfl⟩⟩; (try first | exact ⟨rfl, _, World.drewN_drewN _ _ _⟩ | exact ⟨rfl, _, Eq.trans (World.drewN_drewN _ _ _) (congrArg (World.drewN _) (Nat.add_assoc _ _ _))⟩))))
                           go_meet
                           case rel => exact ⟨_, (false), (endS), H', ⟨by have := HJ100.out; have := HJ200.out; have := HJ300.out; first | omega | exact Nat.le_refl _⟩, ⟨blkZ⟩, ⟨bwA⟩⟩
                     | clear M49
                       (try go_wp2_with (fail))
                       repeat (go_quiet (first | (go_at_call 240; (with_reducible refine (R02_tail.calls _ _ _ _ A404.out).mono ?_); rintro e w' ⟨rfl, ⟨nd, rfl⟩⟩; (try first | exact ⟨rfl, _, World.drewN_drewN _ _ _⟩ | exact ⟨rfl, _, Eq.trans (World.drewN_drewN _ _ _) (congrArg (World.drewN _) (Nat.add_assoc _ _ _))⟩))); try go_wp2_with (first | (go_at_call 240; (with_reducible refine (R02_tail.calls a0 1 false _ A404.out).mono ?_); rintro e w' ⟨rfl, ⟨nd, rfl⟩⟩; (try first | exact ⟨rfl, _, World.drewN_drewN _ _ _⟩ | exact ⟨rfl, _, Eq.trans (World.drewN_drewN _ _ _) (congrArg (World.drewN _) (Nat.add_assoc _ _ _))⟩))))
                       go_meet
                       case rel => exact ⟨_, (false), (endS), H', ⟨by have := HJ100.out; have := HJ200.out; have := HJ300.out; first | omega | exact Nat.le_refl _⟩, ⟨blkZ⟩, ⟨bwA⟩⟩
                 | clear M50
                   go_wp2; repeat (go_quiet (fail); try go_wp2)
                   go_meet
                   case rel => exact ⟨_, (false), (endS), H', ⟨by have := HJ100.out; have := HJ200.out; have := HJ300.out; first | omega | exact Nat.le_refl _⟩, ⟨blkZ⟩, ⟨bwA⟩⟩
             case rest =>
              clear HC401; (try clear c1); (try clear p1); (try clear q1); (try clear hx1); (try clear qi1); (try clear c2); (try clear c2b0); (try clear c2b1); (try clear p2); (try clear c3); (try clear c3b0); (try clear c3b1); (try clear p3); (try clear q3); (try clear hx3); (try clear qi3); (try clear c4); (try clear p4); (try clear q4); (try clear hx4); (try clear qi4); (try clear c5); (try clear c5b0); (try clear p6); (try clear c10); (try clear p10); (try clear q10); (try clear hx10); (try clear qi10); (try clear c20); (try clear c30); (try clear p30); (try clear q30); (try clear hx30); (try clear qi30); (try clear c40); (try clear p64); (try clear c103); (try clear c103b0); (try clear c104); (try clear c104b0); (try clear c104b1); (try clear p105); (try clear q105); (try clear hx105); (try clear qi105); (try clear c201); (try clear c202); (try clear c202b0); (try clear c203); (try clear c203b0); (try clear c205); (try clear c302); (try clear c303); (try clear c303b0); (try clear c303b1); (try clear p304); (try clear q304); (try clear hx304); (try clear qi304); (try clear c305); (try clear c305b0); (try clear c305b1); (try clear p306); (try clear q306); (try clear hx306); (try clear qi306); (try clear c307); (try clear c307b0); (try clear c308); (try clear c308b0); (try clear c309); (try clear c309b0); (try clear hcz102_0); (try clear hcz102_1); (try clear hcz201_0); (try clear hcz201_1); (try clear hcz401_0); (try clear hcz401_1); (try clear hfz102_0); (try clear hfz102_1); (try clear hfz201_0); (try clear hfz201_1); (try clear hfz401_0); (try clear hfz401_1); (try clear p1); (try clear p10); (try clear p105); (try clear p2); (try clear p3); (try clear p30); (try clear p304); (try clear p306); (try clear p4); (try clear p6); (try clear p64); (try clear q1); (try clear q10); (try clear q105); (try clear q3); (try clear q30); (try clear q304); (try clear q306); (try clear q4); obtain ⟨kq, x92_400, rfl, HA, HJ400, BK316, HB⟩ := hcut
              cases kq with
              | zero => exact absurd HA.out (by simp [R02_First.j3])
              | succ kj400 =>
               have H := HA.out; clear HA; simp only [R02_First.j3] at H; revert H; refine itR ?L57p ?L57n
               case' L57p =>
                intro c402 H; subst c402; replace H := itN H; obtain ⟨c403, H⟩ := H; have c403b0 := dT c403; have c403b1 : decide (1 < a0.size) = true := dT (by omega); clear c403; replace H := itN H; obtain ⟨c405, H⟩ := H; have c405b0 := dT c405; have c405b1 : decide (2 < a0.size) = true := dT (by omega); clear c405; replace H := itN H; obtain ⟨c407, H⟩ := H; have c407b0 := dT c407; have c407b1 : decide (3 < a0.size) = true := dT (by omega); clear c407; revert H; refine itR ?L58p ?L58n
                case' L58p =>
                 intro c409 H; have c409b0 := geT c409; clear c409; revert H; refine itR ?L59p ?L59n
                 case' L59p =>
                  intro c410 H; have c410b0 := dT c410; clear c410; obtain ⟨rfl, rfl⟩ := sJ2 H; have M55 := trivial
                 case' L59n =>
                  intro c410 H; have c410b0 := dF c410; clear c410; obtain ⟨rfl, rfl⟩ := sJ2 H; have M56 := trivial
                case' L58n =>
                 intro c409 H; have c409b0 := geF c409; clear c409; obtain ⟨rfl, rfl⟩ := sJ2 H; have M56 := trivial
               case' L57n =>
                intro c402 H; replace c402 := Bool.eq_false_iff.mpr c402; subst c402; obtain ⟨rfl, rfl⟩ := sJ2 H; obtain ⟨hcz501_0, hcz501_1⟩ := cel2 BK316.out; obtain ⟨hfz501_0, hfz501_1⟩ := frz2 BK316.out; go_wp2; (repeat (go_quiet (fail); try go_wp2)); refine bodyPost_ret (results_cell_row rfl _ _ gb316 239 #[.int .i64 0, .int .i64 0] (0, 0) _ rfl blkZ Tryz.underlying239 rfl (by kernel_rfl)) rfl ?_; exact ⟨endA, bwA⟩
               all_goals
                case _ =>
                 have p404 : 0 ≤ (1 : Int) := (by omega); have q404 : 1 < a0.size := (by have : (1 : Int) < (a0.size : Int) := odA; omega); have hx404 : ∀ h : 1 < a0.size, ((a0[1]'h).toNat : Int) = bt a0 1 := bt_at a0 1; clear p404; have qi404 : (1 < (a0.size : Int)) = True := eq_true (odA); replace q404 := eq_true q404; have p406 : 0 ≤ (2 : Int) := (by omega); have q406 : 2 < a0.size := (by have : (2 : Int) < (a0.size : Int) := odA; omega); have hx406 : ∀ h : 2 < a0.size, ((a0[2]'h).toNat : Int) = bt a0 2 := bt_at a0 2; clear p406; have qi406 : (2 < (a0.size : Int)) = True := eq_true (odA); replace q406 := eq_true q406; have p408 : 0 ≤ (3 : Int) := (by omega); have q408 : 3 < a0.size := (by have : (3 : Int) < (a0.size : Int) := odA; omega); have hx408 : ∀ h : 3 < a0.size, ((a0[3]'h).toNat : Int) = bt a0 3 := bt_at a0 3; clear p408; have qi408 : (3 < (a0.size : Int)) = True := eq_true (odA); replace q408 := eq_true q408; obtain ⟨hcz501_0, hcz501_1⟩ := cel2 BK316.out; obtain ⟨hfz501_0, hfz501_1⟩ := frz2 BK316.out; go_wp2; repeat (go_quiet (fail); try go_wp2)
                 first
                  | clear M55
                    refine bodyPost_ret (results_cell_row rfl _ _ gb316 239 #[.int .i64 (wrap64 ((wrap64 ((wrap64 ((wrap64 ((wrap64 (262144 * (wrap64 ((wrap64 (bt a0 0)) - 240)))) + (wrap64 (4096 * (wrap64 ((wrap64 (bt a0 1)) - 128)))))) + (wrap64 (64 * (wrap64 ((wrap64 (bt a0 2)) - 128)))))) + (wrap64 (bt a0 3)))) - 128)), .int .i64 4] (0, 0) _ rfl blkZ Tryz.underlying239 rfl (by kernel_rfl)) rfl ?_; exact ⟨endA, bwA⟩
                  | clear M56
                    refine bodyPost_ret (results_cell_row rfl _ _ gb316 239 #[.int .i64 0, .int .i64 0] (0, 0) _ rfl blkZ Tryz.underlying239 rfl (by kernel_rfl)) rfl ?_; exact ⟨endA, bwA⟩
def R02_Valid.l0 : Nat → ByteArray → Int → Option (Bool)
 | 0, _, _ => none
 | k + 1, x0, x3 => if x3 < (x0.size : Int) then (if 0 ≤ x3 then (if x3 ≤ (x0.size : Int) then ((R02_First.f k (x0.extract (x3 : Int).toNat x0.size)).bind fun bt323 => (if bt323.2 = 0 then (some false) else (R02_Valid.l0 k x0 (wrap64 (x3 + bt323.2))))) else (none)) else (none)) else (some true)
def R02_Valid.f (k : Nat) (a0 : ByteArray) : Option (Bool) := R02_Valid.l0 k a0 0
theorem R02_Valid.mono_l : ∀ k, (∀ y0 y1, LeO (R02_Valid.l0 k y0 y1) (R02_Valid.l0 (k + 1) y0 y1))
 | 0 => fun _ _ r h => by simp [R02_Valid.l0] at h
 | k + 1 => by
  have ih0 := R02_Valid.mono_l k
  ·intro y0 y1
   unfold R02_Valid.l0
   repeat' (with_reducible first | exact ih0 _ _ | exact R02_First.mono _ _ | exact LeO.refl _ | exact LeO.none _ | refine LeO.ite ?_ ?_ | refine LeO.bind ?_ (fun _ => ?_))
theorem R02_Valid.mono : ∀ a0 k, LeO (R02_Valid.f k a0) (R02_Valid.f (k + 1) a0) := by
 intro a0 k; have ih0 := R02_Valid.mono_l k; unfold R02_Valid.f
 repeat' (with_reducible first | exact ih0 _ _ | exact R02_First.mono _ _ | exact LeO.refl _ | exact LeO.none _ | refine LeO.ite ?_ ?_ | refine LeO.bind ?_ (fun _ => ?_))
theorem R02_Valid.calls (k : Nat) (a0 : ByteArray) (r : Bool) (w : World) (h : R02_Valid.f k a0 = some r) :
  Calls Tryz.prog 141 #[.string a0] w fun e w' => e = .returned (.bool r) ∧ Below w.heap.size w w' := by
 have hu239 := Tryz.underlying239; have HB := aM (Below.refl w.heap.size w); unfold R02_Valid.f at h; have H := h; clear h; have H' := aM H; clear H; go_enter Tryz.func141, Tryz.ntmps141; go_wp2
 go_loopg [3] k (fun kq v3 w' => ∃ (x3_1 : Int), v3 = .int .i64 x3_1 ∧ Aside0 (R02_Valid.l0 kq a0 x3_1 = some r) ∧ Aside0 (kq ≤ k) ∧ Aside0 (Below w.heap.size w w'))
 case atStart => exact ⟨(0), (endS), H', ⟨Nat.le_refl _⟩, ⟨bwA⟩⟩
 case round =>
  clear H'; (try clear c1); (try clear p2); (try clear c14); obtain ⟨x3_1, rfl, HA, HK1, HB⟩ := hrel
  cases gk with
  | zero => exact absurd HA.out (by simp [R02_Valid.l0])
  | succ k1 =>
   have H := HA.out; clear HA; simp only [R02_Valid.l0] at H; revert H; refine itR ?L3p ?L3n
   case' L3p =>
    intro c101 H; have c101b0 := dT c101; clear c101; replace H := itN H; obtain ⟨c102, H⟩ := H; have c102b0 := eq_true c102; have c102b1 := dT c102; clear c102; replace H := itN H; obtain ⟨c103, H⟩ := H; have c103b0 := eq_true c103; have c103b1 := dT c103; clear c103; replace H := bnA H; obtain ⟨⟨t323, t324⟩, A104, H⟩ := H; dsimp only at H; revert H; refine itQ ?L4p ?L4n
    case' L4p =>
     rintro ⟨c105b0, c105b1⟩ H; obtain rfl := sI H; have M1 := trivial
    case' L4n =>
     rintro ⟨c105b0, c105b1⟩ c105 H; have H' := aM H; clear H; have M2 := trivial
   case' L3n =>
    intro c101 H; have c101b0 := dF c101; clear c101; obtain rfl := sI H; go_wp2; go_ret; exact ⟨endA, bwA⟩
   all_goals
    case _ =>
     try go_wp2_with (first | ((with_reducible refine gate_callee (f := 201) rfl ?_); refine goesA (some 12) Tryz.func201 #[.string (a0.extract (x3_1 : Int).toNat a0.size)] ?_; (with_reducible refine (R02_First.calls _ _ _ _ _ A104.out).mono ?_); rintro e w201 ⟨rfl, hb⟩; refine ⟨_, rfl, ?_⟩; replace HB := aM (below_step (bwA) hb); (try clear hb)) | ((with_reducible refine gate_dst (N := 4) rfl ?_); refine boxB 4 #[.int .i64 0, .int .i64 0] 239 HB ?_; clear HB; intro gb325 w202 BK325 GW325 GE325 HB; obtain ⟨hcz203_0, hcz203_1⟩ := cel2 BK325.out; obtain ⟨hfz203_0, hfz203_1⟩ := frz2 BK325.out))
     first
      | clear M1
        go_ret; exact ⟨endA, bwA⟩
      | clear M2
        go_roundg k1
        case measure => have := HK1.out; omega
        case rel => exact ⟨(wrap64 (x3_1 + t324)), (endS), H', ⟨by have := HK1.out; omega⟩, ⟨bwA⟩⟩
def R02_Runes.l0 : Nat → ByteArray → List Int → Int → Option (List Int)
 | 0, _, _, _ => none
 | k + 1, x0, x3, x4 => if x4 < (x0.size : Int) then (if 0 ≤ x4 then (if x4 ≤ (x0.size : Int) then ((R02_First.f k (x0.extract (x4 : Int).toNat x0.size)).bind fun bt326 => (if bt326.2 = 0 then (some x3) else (if x3.length < 17592186044416 then (R02_Runes.l0 k x0 (x3 ++ [bt326.1]) (wrap64 (x4 + bt326.2))) else (none)))) else (none)) else (none)) else (some x3)
def R02_Runes.f (k : Nat) (a0 : ByteArray) : Option (List Int) := R02_Runes.l0 k a0 ([] : List Int) 0
theorem R02_Runes.mono_l : ∀ k, (∀ y0 y1 y2, LeO (R02_Runes.l0 k y0 y1 y2) (R02_Runes.l0 (k + 1) y0 y1 y2))
 | 0 => fun _ _ _ r h => by simp [R02_Runes.l0] at h
 | k + 1 => by
  have ih0 := R02_Runes.mono_l k
  ·intro y0 y1 y2
   unfold R02_Runes.l0
   repeat' (with_reducible first | exact ih0 _ _ _ | exact R02_First.mono _ _ | exact LeO.refl _ | exact LeO.none _ | refine LeO.ite ?_ ?_ | refine LeO.bind ?_ (fun _ => ?_))
theorem R02_Runes.mono : ∀ a0 k, LeO (R02_Runes.f k a0) (R02_Runes.f (k + 1) a0) := by
 intro a0 k; have ih0 := R02_Runes.mono_l k; unfold R02_Runes.f
 repeat' (with_reducible first | exact ih0 _ _ _ | exact R02_First.mono _ _ | exact LeO.refl _ | exact LeO.none _ | refine LeO.ite ?_ ?_ | refine LeO.bind ?_ (fun _ => ?_))
theorem R02_Runes.calls (k : Nat) (a0 : ByteArray) (r : List Int) (w : World) (h : R02_Runes.f k a0 = some r) :
  Calls Tryz.prog 142 #[.string a0] w fun e w' => ∃ v0_ : Value, e = .returned (v0_) ∧ Kd.R (Kd.int .i64) 3 w' w.heap.size (fun _ => True) v0_ r ∧ Below w.heap.size w w' := by
 have hu239 := Tryz.underlying239; have HB := aM (Below.refl w.heap.size w); unfold R02_Runes.f at h; have H := h; clear h; have H' := aM H; clear H; go_enter Tryz.func142, Tryz.ntmps142; go_wp2
 go_loopg [3, 4] k (fun kq v3 v4 w' => ∃ (x3_1 : List Int) (x4_1 : Int), v4 = .int .i64 x4_1 ∧ Aside0 (R02_Runes.l0 kq a0 x3_1 x4_1 = some r) ∧ Aside0 (kq ≤ k) ∧ Aside0 (Kd.R (Kd.int .i64) 3 w' w.heap.size (fun _ => True) v3 x3_1) ∧ Aside0 (Below w.heap.size w w'))
 case atStart => exact ⟨(([] : List Int)), (0), (endS), H', ⟨Nat.le_refl _⟩, ⟨by first | exact Kd.R_nil _ _ _ _ _ | exact Kd.N_nil _ _ _ _ _ | exact Kd.V_nil _ _ _ _ _ | exact Kd.Q_nil _ _ _ _ _ | exact Kd.S_nil _ _ _ _ _⟩, ⟨bwA⟩⟩
 case round =>
  clear H'; (try clear c1); (try clear p2); (try clear c14); obtain ⟨x3_1, x4_1, rfl, HA, HK1, HO_3, HB⟩ := hrel
  cases gk with
  | zero => exact absurd HA.out (by simp [R02_Runes.l0])
  | succ k1 =>
   have H := HA.out; clear HA; simp only [R02_Runes.l0] at H; revert H; refine itR ?L3p ?L3n
   case' L3p =>
    intro c101 H; have c101b0 := dT c101; clear c101; replace H := itN H; obtain ⟨c102, H⟩ := H; have c102b0 := eq_true c102; have c102b1 := dT c102; clear c102; replace H := itN H; obtain ⟨c103, H⟩ := H; have c103b0 := eq_true c103; have c103b1 := dT c103; clear c103; replace H := bnA H; obtain ⟨⟨t326, t327⟩, A104, H⟩ := H; dsimp only at H; revert H; refine itQ ?L4p ?L4n
    case' L4p =>
     rintro ⟨c105b0, c105b1⟩ H; obtain rfl := sI H; have M1 := trivial
    case' L4n =>
     rintro ⟨c105b0, c105b1⟩ c105 H; replace H := itN H; obtain ⟨c106, H⟩ := H; have LMc106 := aM c106; clear c106
     first | ((with_reducible replace H := bsG H); obtain ⟨y329, Ny329, H⟩ := H) | (obtain ⟨y329, hy329⟩ : ∃ y_ : List Int, y_ = (x3_1 ++ [t326]) := ⟨_, rfl⟩; rw [← hy329] at H; have Ny329 := aM hy329; clear hy329)
     have H' := aM H; clear H; have M2 := trivial
   case' L3n =>
    intro c101 H; have c101b0 := dF c101; clear c101; obtain rfl := sI H; go_wp2; go_ret; exact ⟨_, endA, by (with_reducible repeat (first | apply Kd.R_alloc | apply Kd.R_drewN | apply Kd.R_drew)); exact HO_3.out, bwA⟩
   all_goals
    case _ =>
     go_wp2_with (first | ((with_reducible refine gate_callee (f := 201) rfl ?_); refine goesA (some 13) Tryz.func201 #[.string (a0.extract (x4_1 : Int).toNat a0.size)] ?_; (with_reducible refine (R02_First.calls _ _ _ _ _ A104.out).mono ?_); rintro e w201 ⟨rfl, hb⟩; refine ⟨_, rfl, ?_⟩; replace HO_3 := aM (Kd.R_below (raA HO_3.out) hb); replace HB := aM (below_step (bwA) hb); (try clear hb)) | ((with_reducible refine gate_dst (N := 5) rfl ?_); refine boxA 5 #[.int .i64 0, .int .i64 0] 239 ?_; intro gb328 hg w202 hbox hb; have BK328 := aM (hbox); have GW328 := aM (hgW hg : w.heap.size ≤ gb328); have GE328 := aM (hgW hg : w.heap.size ≤ gb328); replace HO_3 := aM (Kd.R_below (raA HO_3.out) hb); replace HB := aM (below_step (bwA) hb); clear hb hbox hg; obtain ⟨hcz203_0, hcz203_1⟩ := cel2 BK328.out; obtain ⟨hfz203_0, hfz203_1⟩ := frz2 BK328.out; apply stopA; (case other => exact trivial)))
     case _ =>
      first
       | clear M1
         (try go_wp2_with (fail))
         go_ret; exact ⟨_, endA, by (with_reducible repeat (first | apply Kd.R_alloc | apply Kd.R_drewN | apply Kd.R_drew)); exact Kd.R_mono (Kd.R_far (p := ⟨gb328, 1, none⟩) (Kd.R_far (p := ⟨gb328, 0, none⟩) (Kd.R_types HO_3.out BK328.out (by decide)) (fun _ hk => hk.2) (.int .i64 t326)) (fun _ hk => hk.2) (.int .i64 t327)) (fun _ hk => trivial), bwA⟩
       | clear M2
         try go_wp2_with (first | ((with_reducible refine gate_builtin (b := .append) (xs := #[.tmp 18, .tmp 21]) rfl ?_); at_builtin; refine Kd.R_append (Kd.int .i64) (w0 := w) w.heap.size rfl (.tmp 18) (.tmp 21) 146 3 (.int .i64 0) 8 rfl Tryz.underlying146 info3 rfl (by decide) (by omega) u3 x3_1 t326 [.int .i64 t326] (fun _ => True) (fun _ => False) rfl (by first | (go_simp; done) | (go_simp; rfl)) ?aP (fun _ hk => hk.elim) ?aF ?aO ?aB ?aS ?aL ?_; (case aP => exact rfl); (case aB => exact (bwA)); (case aF => exact (fun _ _ => trivial)); (case aO => exact (raA (Kd.R_mono (Kd.R_far (p := ⟨gb328, 1, none⟩) (Kd.R_far (p := ⟨gb328, 0, none⟩) (Kd.R_types HO_3.out BK328.out (by decide)) (fun _ hk => hk.2) (.int .i64 t326)) (fun _ hk => hk.2) (.int .i64 t327)) (fun _ hk => trivial)))); (case aS => exact (below_size (bwA))); (case aL => have := LMc106.out; omega); intro v330 w204 ho hb hg hat; rw [← Ny329.out] at ho; have n0_ := aM (blk_grown (g := gb328) (o := .cells #[.int .i64 t326, .int .i64 t327] 239 (0, 0)) blkZ hg (Kd.R_ne HO_3.out BK328.out (by decide))); have n1_ := aM (hb); have n2_ := aM (ho); clear BK328; clear HB; clear HO_3; have BK328 := n0_; have HB := n1_; have HO331 := n2_; clear n0_ n1_ n2_; clear ho hb hg hat; obtain ⟨hcz205_0, hcz205_1⟩ := cel2 BK328.out; obtain ⟨hfz205_0, hfz205_1⟩ := frz2 BK328.out))
         go_roundg k1
         case measure => have := HK1.out; omega
         case rel => exact ⟨(y329), (wrap64 (x4_1 + t327)), (endS), H', ⟨by have := HK1.out; omega⟩, ⟨by (with_reducible repeat (first | apply Kd.R_alloc | apply Kd.R_drewN | apply Kd.R_drew)); exact HO331.out⟩, ⟨bwA⟩⟩
def R02_Split.l0 : Nat → List Int → List (List Int) → List Int → Int → Option ((List (List Int)))
 | 0, _, _, _, _ => none
 | k + 1, x0, x3, x4, x5 => if x5 < (x0.length : Int) then (if 0 ≤ x5 then (if (rd x0 x5) = 46 then (if x3.length < 5864062014805 then (R02_Split.l0 k x0 (x3 ++ [x4]) ([] : List Int) (wrap64 (x5 + 1))) else (none)) else (if x4.length < 17592186044416 then (R02_Split.l0 k x0 x3 (x4 ++ [rd x0 x5]) (wrap64 (x5 + 1))) else (none))) else (none)) else (if x3.length < 5864062014805 then (some (x3 ++ [x4])) else (none))
def R02_Split.f (k : Nat) (l0 : List Int) : Option ((List (List Int))) := R02_Split.l0 k l0 ([] : List (List Int)) ([] : List Int) 0
theorem R02_Split.mono_l : ∀ k, (∀ y0 y1 y2 y3, LeO (R02_Split.l0 k y0 y1 y2 y3) (R02_Split.l0 (k + 1) y0 y1 y2 y3))
 | 0 => fun _ _ _ _ r h => by simp [R02_Split.l0] at h
 | k + 1 => by
  have ih0 := R02_Split.mono_l k
  ·intro y0 y1 y2 y3
   unfold R02_Split.l0
   repeat' (with_reducible first | exact ih0 _ _ _ _ | exact LeO.refl _ | exact LeO.none _ | refine LeO.ite ?_ ?_ | refine LeO.bind ?_ (fun _ => ?_))
theorem R02_Split.mono : ∀ a0 k, LeO (R02_Split.f k a0) (R02_Split.f (k + 1) a0) := by
 intro a0 k; have ih0 := R02_Split.mono_l k; unfold R02_Split.f
 repeat' (with_reducible first | exact ih0 _ _ _ _ | exact LeO.refl _ | exact LeO.none _ | refine LeO.ite ?_ ?_ | refine LeO.bind ?_ (fun _ => ?_))
theorem R02_Split.calls (k : Nat) (A0 : Option Addr) (c0 : Nat) (l0 : List Int) (r : List (List Int)) (w : World) (hr0 : Kd.C (Kd.int .i64) w A0 l0.length l0) (hc0 : l0.length ≤ c0) (h : R02_Split.f k l0 = some r) :
  Calls Tryz.prog 143 #[.slice A0 l0.length c0] w fun e w' => ∃ v0_ : Value, e = .returned (v0_) ∧ Kd.S (Kd.slice 3 (Kd.int .i64)) 146 w' w.heap.size (fun _ => True) v0_ r ∧ Below w.heap.size w w' := by
 have HR0 := aM hr0; have HC0 := aM hc0; clear hr0 hc0; have HB := aM (Below.refl w.heap.size w); unfold R02_Split.f at h; have H := h; clear h; have H' := aM H; clear H; go_enter Tryz.func143, Tryz.ntmps143; go_wp2
 go_loopg [3, 4, 5] k (fun kq v3 v4 v5 w' => ∃ (x3_1 : List (List Int)) (x4_1 : List Int) (x5_1 : Int), v5 = .int .i64 x5_1 ∧ Aside0 (R02_Split.l0 kq l0 x3_1 x4_1 x5_1 = some r) ∧ Aside0 (kq ≤ k) ∧ Aside0 (Kd.S (Kd.slice 3 (Kd.int .i64)) 146 w' w.heap.size (fun k_ => some k_ ≠ (v4 : Value).ownBlock) v3 x3_1) ∧ Aside0 (Kd.R (Kd.int .i64) 3 w' w.heap.size (fun _ => True) v4 x4_1) ∧ Aside0 (Below w.heap.size w w'))
 case atStart => exact ⟨(([] : List (List Int))), (([] : List Int)), (0), (endS), H', ⟨Nat.le_refl _⟩, ⟨by first | exact Kd.S_nil _ _ _ _ _ | exact Kd.N_nil _ _ _ _ _ | exact Kd.V_nil _ _ _ _ _ | exact Kd.Q_nil _ _ _ _ _ | exact Kd.R_nil _ _ _ _ _⟩, ⟨by first | exact Kd.R_nil _ _ _ _ _ | exact Kd.N_nil _ _ _ _ _ | exact Kd.V_nil _ _ _ _ _ | exact Kd.Q_nil _ _ _ _ _ | exact Kd.S_nil _ _ _ _ _⟩, ⟨bwA⟩⟩
 case round =>
  clear H'; (try clear c1); (try clear p2); (try clear c14); obtain ⟨x3_1, x4_1, x5_1, rfl, HA, HK1, HO_3, HO_4, HB⟩ := hrel
  cases gk with
  | zero => exact absurd HA.out (by simp [R02_Split.l0])
  | succ k1 =>
   have H := HA.out; clear HA; simp only [R02_Split.l0] at H; revert H; refine itR ?L3p ?L3n
   case' L3p =>
    intro c101 H; have c101b0 := dT c101; clear c101; replace H := itN H; obtain ⟨c102, H⟩ := H; have c102b0 := dT c102; clear c102; revert H; refine itQ ?L4p ?L4n
    case' L4p =>
     rintro ⟨c103b0, c103b1⟩ H; replace H := itN H; obtain ⟨c104, H⟩ := H; have LMc104 := aM c104; clear c104
     first | ((with_reducible replace H := bsG H); obtain ⟨y333, Ny333, H⟩ := H) | (obtain ⟨y333, hy333⟩ : ∃ y_ : List (List Int), y_ = (x3_1 ++ [x4_1]) := ⟨_, rfl⟩; rw [← hy333] at H; have Ny333 := aM hy333; clear hy333)
     have H' := aM H; clear H; have M1 := trivial
    case' L4n =>
     rintro ⟨c103b0, c103b1⟩ c103 H; replace H := itN H; obtain ⟨c104, H⟩ := H; have LMc104 := aM c104; clear c104
     first | ((with_reducible replace H := bsG H); obtain ⟨y337, Ny337, H⟩ := H) | (obtain ⟨y337, hy337⟩ : ∃ y_ : List Int, y_ = (x4_1 ++ [rd l0 x5_1]) := ⟨_, rfl⟩; rw [← hy337] at H; have Ny337 := aM hy337; clear hy337)
     have H' := aM H; clear H; have M2 := trivial
   case' L3n =>
    intro c101 H; have c101b0 := dF c101; clear c101; replace H := itN H; obtain ⟨c102, H⟩ := H; have LMc102 := aM c102; clear c102
    first | ((with_reducible replace H := bsG H); obtain ⟨y340, Ny340, H⟩ := H) | (obtain ⟨y340, hy340⟩ : ∃ y_ : List (List Int), y_ = (x3_1 ++ [x4_1]) := ⟨_, rfl⟩; rw [← hy340] at H; have Ny340 := aM hy340; clear hy340)
    obtain rfl := sI H; obtain ⟨Ao202, co202, eo202⟩ := Kd.R_slice HO_4.out; subst eo202; (try go_wp2_with (first | ((with_reducible refine gate_builtin (b := .append) (xs := #[.tmp 28, .tmp 30]) rfl ?_); at_builtin; refine Kd.S_append (Kd.slice 3 (Kd.int .i64)) (w0 := w) w.heap.size rfl (.tmp 28) (.tmp 30) 192 146 (.slice none 0 0) 24 rfl Tryz.underlying192 info146 rfl (by decide) (by omega) u3 x3_1 x4_1 [.slice Ao202 x4_1.length co202] (fun _ => True) (fun k_ => some k_ = (.slice Ao202 x4_1.length co202 : Value).ownBlock) rfl rfl ?aP (fun k_ hk_ => ((Kd.R_mono (ok' := fun k_ => ((fun _ => True)) k_ ∧ some k_ ≠ (u3 : Value).ownBlock) (Kd.R_apart' (HO_4.out) (Kd.S_typed HO_3.out) (by decide)) (fun k_ hk => ⟨trivial, hk.2⟩))).1 k_ hk_.symm) ?aF ?aO ?aB ?aS ?aL ?_; (case aP => exact Kd.M_row (Kd.R_mono (Kd.R_tight rfl (Kd.R_mono (ok' := fun k_ => ((fun _ => True)) k_ ∧ some k_ ≠ (u3 : Value).ownBlock) (Kd.R_apart' (HO_4.out) (Kd.S_typed HO_3.out) (by decide)) (fun k_ hk => ⟨trivial, hk.2⟩))) (fun _ h_ => h_))); (case aB => exact (bwA)); (case aF => exact (fun _ _ => trivial)); (case aO => exact (by (with_reducible repeat (first | apply Kd.S_alloc | apply Kd.S_drewN | apply Kd.S_drew)); exact Kd.S_mono HO_3.out (fun k_ hk => ⟨trivial, fun e_ => hk e_⟩))); (case aS => exact (below_size (bwA))); (case aL => have := LMc102.out; omega); intro v341 w201 ho hb hg hat; rw [← Ny340.out] at ho; have n0_ := aM (hb); have n1_ := aM (ho); clear HB; clear HO_3; clear HO_4; have HB := n0_; have HO342 := n1_; clear n0_ n1_; clear ho hb hg hat))); go_ret; exact ⟨_, endA, by (with_reducible repeat (first | apply Kd.S_alloc | apply Kd.S_drewN | apply Kd.S_drew)); exact HO342.out, bwA⟩
   all_goals
    case _ =>
     have p332 : 0 ≤ (x5_1 : Int) := odA; have q332 : x5_1 < (l0.length : Int) := odA; obtain ⟨ad332, e332, hx332_0⟩ := Kd.at_int HR0.out x5_1 p332 q332
     cases e332
     replace hx332_0 := crA hx332_0; replace p332 := eq_true p332; replace q332 := eq_true q332
     first
      | clear M1
        obtain ⟨Ao202, co202, eo202⟩ := Kd.R_slice HO_4.out; subst eo202; try go_wp2_with (first | ((with_reducible refine gate_builtin (b := .append) (xs := #[.tmp 17, .tmp 19]) rfl ?_); at_builtin; refine Kd.S_append (Kd.slice 3 (Kd.int .i64)) (w0 := w) w.heap.size rfl (.tmp 17) (.tmp 19) 192 146 (.slice none 0 0) 24 rfl Tryz.underlying192 info146 rfl (by decide) (by omega) u3 x3_1 x4_1 [.slice Ao202 x4_1.length co202] (fun _ => True) (fun k_ => some k_ = (.slice Ao202 x4_1.length co202 : Value).ownBlock) rfl rfl ?aP (fun k_ hk_ => ((Kd.R_mono (ok' := fun k_ => ((fun _ => True)) k_ ∧ some k_ ≠ (u3 : Value).ownBlock) (Kd.R_apart' (HO_4.out) (Kd.S_typed HO_3.out) (by decide)) (fun k_ hk => ⟨trivial, hk.2⟩))).1 k_ hk_.symm) ?aF ?aO ?aB ?aS ?aL ?_; (case aP => exact Kd.M_row (Kd.R_mono (Kd.R_tight rfl (Kd.R_mono (ok' := fun k_ => ((fun _ => True)) k_ ∧ some k_ ≠ (u3 : Value).ownBlock) (Kd.R_apart' (HO_4.out) (Kd.S_typed HO_3.out) (by decide)) (fun k_ hk => ⟨trivial, hk.2⟩))) (fun _ h_ => h_))); (case aB => exact (bwA)); (case aF => exact (fun _ _ => trivial)); (case aO => exact (by (with_reducible repeat (first | apply Kd.S_alloc | apply Kd.S_drewN | apply Kd.S_drew)); exact Kd.S_mono HO_3.out (fun k_ hk => ⟨trivial, fun e_ => hk e_⟩))); (case aS => exact (below_size (bwA))); (case aL => have := LMc104.out; omega); intro v334 w201 ho hb hg hat; rw [← Ny333.out] at ho; have n0_ := aM (hb); have n1_ := aM (ho); clear HB; clear HO_3; clear HO_4; have HB := n0_; have HO335 := n1_; clear n0_ n1_; clear ho hb hg hat))
        go_roundg k1
        case measure => have := HK1.out; omega
        case rel => exact ⟨(y333), (([] : List Int)), (wrap64 (x5_1 + 1)), (endS), H', ⟨by have := HK1.out; omega⟩, ⟨by (with_reducible repeat (first | apply Kd.S_alloc | apply Kd.S_drewN | apply Kd.S_drew)); exact Kd.S_mono HO335.out (fun _ hk => (by simp [Value.ownBlock]))⟩, ⟨by first | exact Kd.R_nil _ _ _ _ _ | exact Kd.N_nil _ _ _ _ _ | exact Kd.V_nil _ _ _ _ _ | exact Kd.Q_nil _ _ _ _ _ | exact Kd.S_nil _ _ _ _ _⟩, ⟨bwA⟩⟩
      | clear M2
        have p336 : 0 ≤ (x5_1 : Int) := odA; have q336 : x5_1 < (l0.length : Int) := odA; obtain ⟨ad336, e336, hx336_0⟩ := Kd.at_int HR0.out x5_1 p336 q336; obtain rfl : ad332 = ad336 := (by injection e336); replace hx336_0 := crA hx336_0; replace p336 := eq_true p336; replace q336 := eq_true q336; try go_wp2_with (first | ((with_reducible refine gate_builtin (b := .append) (xs := #[.tmp 21, .tmp 26]) rfl ?_); at_builtin; refine Kd.R_append (Kd.int .i64) (w0 := w) w.heap.size rfl (.tmp 21) (.tmp 26) 146 3 (.int .i64 0) 8 rfl Tryz.underlying146 info3 rfl (by decide) (by omega) u4 x4_1 (rd l0 x5_1) [.int .i64 (rd l0 x5_1)] (fun _ => True) (fun _ => False) rfl rfl ?aP (fun _ hk => hk.elim) ?aF ?aO ?aB ?aS ?aL ?_; (case aP => exact rfl); (case aB => exact (bwA)); (case aF => exact (fun _ _ => trivial)); (case aO => exact (raA HO_4.out)); (case aS => exact (below_size (bwA))); (case aL => have := LMc104.out; omega); intro v338 w201 ho hb hg hat; rw [← Ny337.out] at ho; have n0_ := aM (Kd.S_after (ok := (fun _ => True)) (by (with_reducible repeat (first | apply Kd.S_alloc | apply Kd.S_drewN | apply Kd.S_drew)); exact Kd.S_mono HO_3.out (fun _ hk => ⟨trivial, hk⟩)) hg hat); have n1_ := aM (hb); have n2_ := aM (ho); clear HO_3; clear HB; clear HO_4; have HO_3 := n0_; have HB := n1_; have HO339 := n2_; clear n0_ n1_ n2_; clear ho hb hg hat))
        go_roundg k1
        case measure => have := HK1.out; omega
        case rel => exact ⟨(x3_1), (y337), (wrap64 (x5_1 + 1)), (endS), H', ⟨by have := HK1.out; omega⟩, ⟨by (with_reducible repeat (first | apply Kd.S_alloc | apply Kd.S_drewN | apply Kd.S_drew)); exact Kd.S_mono HO_3.out (fun _ hk => hk.2)⟩, ⟨by (with_reducible repeat (first | apply Kd.R_alloc | apply Kd.R_drewN | apply Kd.R_drew)); exact HO339.out⟩, ⟨bwA⟩⟩
end Go.Proofs.YtkdndabpaajkaaaGreatDoor.A
