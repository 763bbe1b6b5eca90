-- By drv.py, the session's own driver round the kit's print: the machine's side of the laws, function by function. Not trusted: Lean checks it.
import Derived.Test.YtoajlmmkkcelgaaDoorAx0
namespace Go.Proofs.YtoajlmmkkcelgaaDoor.A
open Go.RowKit Go.Proofs.YtoajlmmkkcelgaaDoorW.PrintWords Go.Proofs.YtoajlmmkkcelgaaDoorW.PrintLast Go.Proofs.YtoajlmmkkcelgaaDoorW.PrintMore
attribute [local go_sem] max2_int min2_int max_two min_two max_three min_three max_four min_four   -- for this text's walks alone
set_option linter.unusedVariables false
set_option linter.unusedSimpArgs false

/-! ### caduceuslaw07_refs: function 27 -/
def caduceuslaw07_refs.l0 : Nat → List (S68) → List (S81) → Int → Option ((List (S81)))
 | 0, _, _, _ => none
 | k + 1, x0, x3, x4 => if x4 < (x0.length : Int) then (if 0 ≤ x4 then (if x3.length < 2199023255552 then (caduceuslaw07_refs.l0 k x0 (x3 ++ [(⟨(rd_T68 x0 x4).f0, (rd_T68 x0 x4).f1, (rd_T68 x0 x4).f2, (⟨(rd_T68 x0 x4).f3.f0, (rd_T68 x0 x4).f3.f1, (rd_T68 x0 x4).f3.f2⟩ : S29)⟩ : S81)]) (wrap64 (x4 + 1))) else (none)) else (none)) else (some x3)
def caduceuslaw07_refs.f (k : Nat) (l0 : List (S68)) : Option ((List (S81))) := caduceuslaw07_refs.l0 k l0 ([] : List (S81)) 0
theorem caduceuslaw07_refs.mono_l : ∀ k, (∀ y0 y1 y2, LeO (caduceuslaw07_refs.l0 k y0 y1 y2) (caduceuslaw07_refs.l0 (k + 1) y0 y1 y2))
 | 0 => fun _ _ _ r h => by simp [caduceuslaw07_refs.l0] at h
 | k + 1 => by
  have ih0 := caduceuslaw07_refs.mono_l k
  ·intro y0 y1 y2
   unfold caduceuslaw07_refs.l0
   repeat' first
   | (with_reducible exact ih0 _ _ _)
   | (with_reducible exact LeO.refl _)
   | (with_reducible exact LeO.none _)
   | (with_reducible refine LeO.ite ?_ ?_)
   | (with_reducible refine LeO.bind ?_ (fun _ => ?_))
   | exact ih0 _ _ _
   | exact LeO.none _
   | refine LeO.ite ?_ ?_
   | refine LeO.bind ?_ (fun _ => ?_)
theorem caduceuslaw07_refs.mono : ∀ a0 k, LeO (caduceuslaw07_refs.f k a0) (caduceuslaw07_refs.f (k + 1) a0) := by
 intro a0 k
 have ih0 := caduceuslaw07_refs.mono_l k
 unfold caduceuslaw07_refs.f
 repeat' first
   | (with_reducible exact ih0 _ _ _)
   | (with_reducible exact LeO.refl _)
   | (with_reducible exact LeO.none _)
   | (with_reducible refine LeO.ite ?_ ?_)
   | (with_reducible refine LeO.bind ?_ (fun _ => ?_))
   | exact ih0 _ _ _
   | exact LeO.none _
   | refine LeO.ite ?_ ?_
   | refine LeO.bind ?_ (fun _ => ?_)
def caduceuslaw07_refs.T5 : Bool × List (List Nat × List Nat) := (true, [([], []), ([], []), ([], []), ([1, 2], [1, 2]), ([3], [3]), ([4], [4]), ([], []), ([], []), ([6, 7], [6, 7]), ([8], [8]), ([9], [9]), ([], []), ([], []), ([11, 12], [11, 12]), ([13], [13]), ([14], [14]), ([], []), ([], []), ([16, 17], [16, 17]), ([18], [18]), ([19], [19]), ([5, 10, 15, 20], [5, 10, 15, 20]), ([21], [21]), ([0, 22], [0, 22]), ([23, 23, 0, 1, 2, 3, 4, 5, 6, 7, 8, 9, 10, 11, 12, 13, 14, 15, 16, 17, 18, 19, 20, 21, 22, 23], [0, 23])])
def caduceuslaw07_refs.B5 : List Nat := [0, 0, 0, 6, 14, 30, 0, 0, 192, 448, 960, 0, 0, 6144, 14336, 30720, 0, 0, 196608, 458752, 983040, 2097150, 4194302, 8388607, 16777215]
theorem caduceuslaw07_refs.tab5 : rtab .any (opsOf Tryd.f27 5) = caduceuslaw07_refs.T5 := by kernel_rfl
theorem caduceuslaw07_refs.bits5 : waitsOk caduceuslaw07_refs.T5.2 caduceuslaw07_refs.B5 = true := by kernel_rfl
set_option maxHeartbeats 8000000 in
set_option maxRecDepth 100000 in
theorem caduceuslaw07_refs.calls (k : Nat) (A0 : Option Addr) (c0 : Nat) (l0 : List (S68)) (r : List (S81)) (w : World) (hr0 : Kd.C k68 w A0 l0.length l0) (hc0 : l0.length ≤ c0) (h : caduceuslaw07_refs.f k l0 = some r) :
  Calls Tryd.prog 27 #[.slice A0 l0.length c0] w fun e w' => ∃ v0_ : Value, e = .returned (v0_) ∧ Kd.R k81 81 w' w.heap.size (fun _ => True) v0_ r ∧ Below w.heap.size w w' := by
 have hu25 := Tryd.underlying25
 have hu81 := Tryd.underlying81
 have HR0 := Aside0.mk hr0
 have HC0 := Aside0.mk hc0
 clear hr0 hc0
 have HB := Aside0.mk (Below.refl w.heap.size w)
 have H : (caduceuslaw07_refs.l0 k l0 ([] : List (S81)) 0) = some r := h
 clear h
 have H' := Aside0.mk H
 clear H
 go_enter Tryd.func27, Tryd.ntmps27
 go_wp2
 go_loopg [3, 4] k (fun kq v3 v4 w' => ∃ (x3_1 : List (S81)) (x4_1 : Int), v4 = .int .i64 x4_1 ∧ Aside0 (caduceuslaw07_refs.l0 kq l0 x3_1 x4_1 = some r) ∧ Aside0 (kq ≤ k) ∧ Aside0 (Kd.R k81 81 w' w.heap.size (fun _ => True) v3 x3_1) ∧ Aside0 (Below w.heap.size w w'))
 case atStart => exact ⟨(([] : List (S81))), (0), (by first | rfl | (simp; done) | (simp [*]; done)), H', ⟨Nat.le_refl _⟩, ⟨by first | exact Kd.R_nil _ _ _ _ _ | exact Kd.N_nil _ _ _ _ _ | exact Kd.V_nil _ _ _ _ _ | exact Kd.Q_nil _ _ _ _ _ | exact Kd.S_nil _ _ _ _ _⟩, ⟨by repeat (first | (with_reducible first | exact HB.out | apply below_alloc | apply pw_below_drewN | apply below_drew1) | exact HB.out)⟩⟩
 case round =>
  clear H'
  obtain ⟨x3_1, x4_1, rfl, HA, HK1, HO_3, HB⟩ := hrel
  cases gk with
  | zero => exact absurd HA.out (by simp [caduceuslaw07_refs.l0])
  | succ k1 =>
   have H := HA.out
   clear HA
   simp only [caduceuslaw07_refs.l0] at H
   by_cases c2 : x4_1 < (l0.length : Int)
   ·rw [if_pos c2] at H
    have c2b0 : decide (x4_1 < (l0.length : Int)) = true := decide_eq_true c2
    clear c2
    by_cases c3 : 0 ≤ x4_1
    ·rw [if_pos c3] at H
     have c3b0 : decide (0 ≤ x4_1) = true := decide_eq_true c3
     clear c3
     by_cases c4 : x3_1.length < 2199023255552
     ·rw [if_pos c4] at H
      have LMc4 := Aside0.mk c4
      clear c4
      obtain ⟨y659, hy659⟩ : ∃ y_ : List (S81), y_ = (x3_1 ++ [(⟨(rd_T68 l0 x4_1).f0, (rd_T68 l0 x4_1).f1, (rd_T68 l0 x4_1).f2, (⟨(rd_T68 l0 x4_1).f3.f0, (rd_T68 l0 x4_1).f3.f1, (rd_T68 l0 x4_1).f3.f2⟩ : S29)⟩ : S81)]) := ⟨_, rfl⟩
      replace H : (caduceuslaw07_refs.l0 k1 l0 y659 (wrap64 (x4_1 + 1))) = some r := by first | (rw [hy659]; with_reducible exact H) | (have H2_ := (Option.bind_some _ _).symm.trans H; rw [hy659]; with_reducible exact H2_) | (have H2_ := (Option.bind_some _ _).symm.trans H; with_reducible exact H2_) | with_reducible exact H | (rw [hy659]; exact H) | exact H
      have Ny659 := Aside0.mk hy659
      clear hy659
      have H' := Aside0.mk H
      clear H
      try go_wp2
      have n0_ := Aside0.mk (Kd.R_drew HO_3.out)
      have n1_ := Aside0.mk (below_drew1 HB.out)
      clear HO_3
      clear HB
      have HO_3 := n0_
      have HB := n1_
      clear n0_ n1_
      have p655 : 0 ≤ (x4_1 : Int) := of_decide_eq_true (by first | (with_reducible assumption) | assumption)
      have q655 : x4_1 < (l0.length : Int) := of_decide_eq_true (by first | (with_reducible assumption) | assumption)
      obtain ⟨ad655, e655, hx655_0, hx655_1, hx655_2, hx655_3, hx655_4, hx655_5⟩ := at_T68 HR0.out x4_1 p655 q655
      have hw655_5 := hx655_5
      have hw655_4 := hx655_4
      have hw655_3 := hx655_3
      have hw655_2 := hx655_2
      have hw655_1 := hx655_1
      have hw655_0 := hx655_0
      cases e655
      replace hx655_0 := (HB.out.cell (World.block_lt_of_cell? w _ hx655_0)).trans hx655_0
      replace hx655_1 := (HB.out.cell (World.block_lt_of_cell? w _ hx655_1)).trans hx655_1
      replace hx655_2 := (HB.out.cell (World.block_lt_of_cell? w _ hx655_2)).trans hx655_2
      replace hx655_3 := (HB.out.cell (World.block_lt_of_cell? w _ hx655_3)).trans hx655_3
      replace hx655_4 := (HB.out.cell (World.block_lt_of_cell? w _ hx655_4)).trans hx655_4
      replace hx655_5 := (HB.out.cell (World.block_lt_of_cell? w _ hx655_5)).trans hx655_5
      replace p655 := eq_true p655
      replace q655 := eq_true q655
      have p656 : 0 ≤ (x4_1 : Int) := of_decide_eq_true (by first | (with_reducible assumption) | assumption)
      have q656 : x4_1 < (l0.length : Int) := of_decide_eq_true (by first | (with_reducible assumption) | assumption)
      obtain ⟨ad656, e656, hx656_0, hx656_1, hx656_2, hx656_3, hx656_4, hx656_5⟩ := at_T68 HR0.out x4_1 p656 q656
      have hw656_5 := hx656_5
      have hw656_4 := hx656_4
      have hw656_3 := hx656_3
      have hw656_2 := hx656_2
      have hw656_1 := hx656_1
      have hw656_0 := hx656_0
      obtain rfl : ad655 = ad656 := (by injection e656)
      replace hx656_0 := (HB.out.cell (World.block_lt_of_cell? w _ hx656_0)).trans hx656_0
      replace hx656_1 := (HB.out.cell (World.block_lt_of_cell? w _ hx656_1)).trans hx656_1
      replace hx656_2 := (HB.out.cell (World.block_lt_of_cell? w _ hx656_2)).trans hx656_2
      replace hx656_3 := (HB.out.cell (World.block_lt_of_cell? w _ hx656_3)).trans hx656_3
      replace hx656_4 := (HB.out.cell (World.block_lt_of_cell? w _ hx656_4)).trans hx656_4
      replace hx656_5 := (HB.out.cell (World.block_lt_of_cell? w _ hx656_5)).trans hx656_5
      replace p656 := eq_true p656
      replace q656 := eq_true q656
      have p657 : 0 ≤ (x4_1 : Int) := of_decide_eq_true (by first | (with_reducible assumption) | assumption)
      have q657 : x4_1 < (l0.length : Int) := of_decide_eq_true (by first | (with_reducible assumption) | assumption)
      obtain ⟨ad657, e657, hx657_0, hx657_1, hx657_2, hx657_3, hx657_4, hx657_5⟩ := at_T68 HR0.out x4_1 p657 q657
      have hw657_5 := hx657_5
      have hw657_4 := hx657_4
      have hw657_3 := hx657_3
      have hw657_2 := hx657_2
      have hw657_1 := hx657_1
      have hw657_0 := hx657_0
      obtain rfl : ad655 = ad657 := (by injection e657)
      replace hx657_0 := (HB.out.cell (World.block_lt_of_cell? w _ hx657_0)).trans hx657_0
      replace hx657_1 := (HB.out.cell (World.block_lt_of_cell? w _ hx657_1)).trans hx657_1
      replace hx657_2 := (HB.out.cell (World.block_lt_of_cell? w _ hx657_2)).trans hx657_2
      replace hx657_3 := (HB.out.cell (World.block_lt_of_cell? w _ hx657_3)).trans hx657_3
      replace hx657_4 := (HB.out.cell (World.block_lt_of_cell? w _ hx657_4)).trans hx657_4
      replace hx657_5 := (HB.out.cell (World.block_lt_of_cell? w _ hx657_5)).trans hx657_5
      replace p657 := eq_true p657
      replace q657 := eq_true q657
      have p658 : 0 ≤ (x4_1 : Int) := of_decide_eq_true (by first | (with_reducible assumption) | assumption)
      have q658 : x4_1 < (l0.length : Int) := of_decide_eq_true (by first | (with_reducible assumption) | assumption)
      obtain ⟨ad658, e658, hx658_0, hx658_1, hx658_2, hx658_3, hx658_4, hx658_5⟩ := at_T68 HR0.out x4_1 p658 q658
      have hw658_5 := hx658_5
      have hw658_4 := hx658_4
      have hw658_3 := hx658_3
      have hw658_2 := hx658_2
      have hw658_1 := hx658_1
      have hw658_0 := hx658_0
      obtain rfl : ad655 = ad658 := (by injection e658)
      replace hx658_0 := (HB.out.cell (World.block_lt_of_cell? w _ hx658_0)).trans hx658_0
      replace hx658_1 := (HB.out.cell (World.block_lt_of_cell? w _ hx658_1)).trans hx658_1
      replace hx658_2 := (HB.out.cell (World.block_lt_of_cell? w _ hx658_2)).trans hx658_2
      replace hx658_3 := (HB.out.cell (World.block_lt_of_cell? w _ hx658_3)).trans hx658_3
      replace hx658_4 := (HB.out.cell (World.block_lt_of_cell? w _ hx658_4)).trans hx658_4
      replace hx658_5 := (HB.out.cell (World.block_lt_of_cell? w _ hx658_5)).trans hx658_5
      replace p658 := eq_true p658
      replace q658 := eq_true q658
      refine start_ (n := 25) (S := fun w' => w'.cell? (ad655.add ((x4_1).toNat * 6)) = some (.int .i64 ((rd_T68 l0 x4_1).f0)) ∧ w'.cell? ⟨(ad655.add ((x4_1).toNat * 6)).block, (ad655.add ((x4_1).toNat * 6)).off + 1, none⟩ = some (.int .i64 ((rd_T68 l0 x4_1).f1)) ∧ w'.cell? ⟨(ad655.add ((x4_1).toNat * 6)).block, (ad655.add ((x4_1).toNat * 6)).off + 2, none⟩ = some (.string ((rd_T68 l0 x4_1).f2)) ∧ w'.cell? ⟨(ad655.add ((x4_1).toNat * 6)).block, (ad655.add ((x4_1).toNat * 6)).off + 3, none⟩ = some (.int .i64 ((rd_T68 l0 x4_1).f3.f0)) ∧ w'.cell? ⟨(ad655.add ((x4_1).toNat * 6)).block, (ad655.add ((x4_1).toNat * 6)).off + 4, none⟩ = some (.int .i64 ((rd_T68 l0 x4_1).f3.f1)) ∧ w'.cell? ⟨(ad655.add ((x4_1).toNat * 6)).block, (ad655.add ((x4_1).toNat * 6)).off + 5, none⟩ = some (.string ((rd_T68 l0 x4_1).f3.f2)) ∧ w'.cell? (ad655.add ((x4_1).toNat * 6)) = some (.int .i64 ((rd_T68 l0 x4_1).f0)) ∧ w'.cell? ⟨(ad655.add ((x4_1).toNat * 6)).block, (ad655.add ((x4_1).toNat * 6)).off + 1, none⟩ = some (.int .i64 ((rd_T68 l0 x4_1).f1)) ∧ w'.cell? ⟨(ad655.add ((x4_1).toNat * 6)).block, (ad655.add ((x4_1).toNat * 6)).off + 2, none⟩ = some (.string ((rd_T68 l0 x4_1).f2)) ∧ w'.cell? ⟨(ad655.add ((x4_1).toNat * 6)).block, (ad655.add ((x4_1).toNat * 6)).off + 3, none⟩ = some (.int .i64 ((rd_T68 l0 x4_1).f3.f0)) ∧ w'.cell? ⟨(ad655.add ((x4_1).toNat * 6)).block, (ad655.add ((x4_1).toNat * 6)).off + 4, none⟩ = some (.int .i64 ((rd_T68 l0 x4_1).f3.f1)) ∧ w'.cell? ⟨(ad655.add ((x4_1).toNat * 6)).block, (ad655.add ((x4_1).toNat * 6)).off + 5, none⟩ = some (.string ((rd_T68 l0 x4_1).f3.f2)) ∧ w'.cell? (ad655.add ((x4_1).toNat * 6)) = some (.int .i64 ((rd_T68 l0 x4_1).f0)) ∧ w'.cell? ⟨(ad655.add ((x4_1).toNat * 6)).block, (ad655.add ((x4_1).toNat * 6)).off + 1, none⟩ = some (.int .i64 ((rd_T68 l0 x4_1).f1)) ∧ w'.cell? ⟨(ad655.add ((x4_1).toNat * 6)).block, (ad655.add ((x4_1).toNat * 6)).off + 2, none⟩ = some (.string ((rd_T68 l0 x4_1).f2)) ∧ w'.cell? ⟨(ad655.add ((x4_1).toNat * 6)).block, (ad655.add ((x4_1).toNat * 6)).off + 3, none⟩ = some (.int .i64 ((rd_T68 l0 x4_1).f3.f0)) ∧ w'.cell? ⟨(ad655.add ((x4_1).toNat * 6)).block, (ad655.add ((x4_1).toNat * 6)).off + 4, none⟩ = some (.int .i64 ((rd_T68 l0 x4_1).f3.f1)) ∧ w'.cell? ⟨(ad655.add ((x4_1).toNat * 6)).block, (ad655.add ((x4_1).toNat * 6)).off + 5, none⟩ = some (.string ((rd_T68 l0 x4_1).f3.f2)) ∧ w'.cell? (ad655.add ((x4_1).toNat * 6)) = some (.int .i64 ((rd_T68 l0 x4_1).f0)) ∧ w'.cell? ⟨(ad655.add ((x4_1).toNat * 6)).block, (ad655.add ((x4_1).toNat * 6)).off + 1, none⟩ = some (.int .i64 ((rd_T68 l0 x4_1).f1)) ∧ w'.cell? ⟨(ad655.add ((x4_1).toNat * 6)).block, (ad655.add ((x4_1).toNat * 6)).off + 2, none⟩ = some (.string ((rd_T68 l0 x4_1).f2)) ∧ w'.cell? ⟨(ad655.add ((x4_1).toNat * 6)).block, (ad655.add ((x4_1).toNat * 6)).off + 3, none⟩ = some (.int .i64 ((rd_T68 l0 x4_1).f3.f0)) ∧ w'.cell? ⟨(ad655.add ((x4_1).toNat * 6)).block, (ad655.add ((x4_1).toNat * 6)).off + 4, none⟩ = some (.int .i64 ((rd_T68 l0 x4_1).f3.f1)) ∧ w'.cell? ⟨(ad655.add ((x4_1).toNat * 6)).block, (ad655.add ((x4_1).toNat * 6)).off + 5, none⟩ = some (.string ((rd_T68 l0 x4_1).f3.f2))) (ds := []) #[false, false, false, false, false, false, false, false, false, false, false, false, false, false, false, false, false, false, false, false, false, false, false, false, false] (by kernel_rfl) rfl rfl ⟨((HB.out.cell (World.block_lt_of_cell? w _ hw655_0)).trans hw655_0), ((HB.out.cell (World.block_lt_of_cell? w _ hw655_1)).trans hw655_1), ((HB.out.cell (World.block_lt_of_cell? w _ hw655_2)).trans hw655_2), ((HB.out.cell (World.block_lt_of_cell? w _ hw655_3)).trans hw655_3), ((HB.out.cell (World.block_lt_of_cell? w _ hw655_4)).trans hw655_4), ((HB.out.cell (World.block_lt_of_cell? w _ hw655_5)).trans hw655_5), ((HB.out.cell (World.block_lt_of_cell? w _ hw656_0)).trans hw656_0), ((HB.out.cell (World.block_lt_of_cell? w _ hw656_1)).trans hw656_1), ((HB.out.cell (World.block_lt_of_cell? w _ hw656_2)).trans hw656_2), ((HB.out.cell (World.block_lt_of_cell? w _ hw656_3)).trans hw656_3), ((HB.out.cell (World.block_lt_of_cell? w _ hw656_4)).trans hw656_4), ((HB.out.cell (World.block_lt_of_cell? w _ hw656_5)).trans hw656_5), ((HB.out.cell (World.block_lt_of_cell? w _ hw657_0)).trans hw657_0), ((HB.out.cell (World.block_lt_of_cell? w _ hw657_1)).trans hw657_1), ((HB.out.cell (World.block_lt_of_cell? w _ hw657_2)).trans hw657_2), ((HB.out.cell (World.block_lt_of_cell? w _ hw657_3)).trans hw657_3), ((HB.out.cell (World.block_lt_of_cell? w _ hw657_4)).trans hw657_4), ((HB.out.cell (World.block_lt_of_cell? w _ hw657_5)).trans hw657_5), ((HB.out.cell (World.block_lt_of_cell? w _ hw658_0)).trans hw658_0), ((HB.out.cell (World.block_lt_of_cell? w _ hw658_1)).trans hw658_1), ((HB.out.cell (World.block_lt_of_cell? w _ hw658_2)).trans hw658_2), ((HB.out.cell (World.block_lt_of_cell? w _ hw658_3)).trans hw658_3), ((HB.out.cell (World.block_lt_of_cell? w _ hw658_4)).trans hw658_4), ((HB.out.cell (World.block_lt_of_cell? w _ hw658_5)).trans hw658_5)⟩ (fun hHeld => ?_); refine with_tabW caduceuslaw07_refs.tab5 caduceuslaw07_refs.bits5 (fun HT_ HW_ => ?_)
      generalize wr.drew = w5 at HO_3 HB hx655_0 hx655_1 hx655_2 hx655_3 hx655_4 hx655_5 hx656_0 hx656_1 hx656_2 hx656_3 hx656_4 hx656_5 hx657_0 hx657_1 hx657_2 hx657_3 hx657_4 hx657_5 hx658_0 hx658_1 hx658_2 hx658_3 hx658_4 hx658_5 hHeld ⊢
      refine pure_ (i := 0) (N := some 11) (v := ?_) (a' := ?_) #[true, false, false, false, false, false, false, false, false, false, false, false, false, false, false, false, false, false, false, false, false, false, false, false, false] rfl rfl (any_of HT_.out (by kernel_rfl)) (fun _ _ _ h => h) (Or.inl ⟨by rfl, ?_⟩) ?_ ?_
      rotate_left
      ·intro w'
       go_simp
       with_reducible rfl
      rotate_left
      ·simp only [Act.put, List.setIfInBounds_toArray, List.set_cons_zero, List.set_cons_succ, i64_w, i32_w]
       rfl
      refine pure_ (i := 1) (N := some 12) (v := ?_) (a' := ?_) #[true, true, false, false, false, false, false, false, false, false, false, false, false, false, false, false, false, false, false, false, false, false, false, false, false] rfl rfl (any_of HT_.out (by kernel_rfl)) (fun _ _ _ h => h) (Or.inl ⟨by rfl, ?_⟩) ?_ ?_
      rotate_left
      ·intro w'
       go_simp
       with_reducible rfl
      rotate_left
      ·simp only [Act.put, List.setIfInBounds_toArray, List.set_cons_zero, List.set_cons_succ, i64_w, i32_w]
       rfl
      refine pure_ (i := 2) (N := some 13) (v := ?_) (a' := ?_) #[true, true, true, false, false, false, false, false, false, false, false, false, false, false, false, false, false, false, false, false, false, false, false, false, false] rfl rfl (any_of HT_.out (by kernel_rfl)) (fun _ _ _ h => h) (Or.inl ⟨by rfl, ?_⟩) ?_ ?_
      rotate_left
      ·intro w'
       go_simp
       with_reducible rfl
      rotate_left
      ·simp only [Act.put, List.setIfInBounds_toArray, List.set_cons_zero, List.set_cons_succ, i64_w, i32_w]
       rfl
      refine pure_ (i := 3) (N := some 14) (v := ?_) (a' := ?_) #[true, true, true, true, false, false, false, false, false, false, false, false, false, false, false, false, false, false, false, false, false, false, false, false, false] rfl rfl (any_of HT_.out (by kernel_rfl)) (fun _ _ _ h => h) (Or.inl ⟨by rfl, ?_⟩) ?_ ?_
      rotate_left
      ·intro w'
       go_simp
       with_reducible rfl
      rotate_left
      ·simp only [Act.put, List.setIfInBounds_toArray, List.set_cons_zero, List.set_cons_succ, i64_w, i32_w]
       rfl
      refine pure_ (i := 4) (N := some 15) (v := ?_) (a' := ?_) #[true, true, true, true, true, false, false, false, false, false, false, false, false, false, false, false, false, false, false, false, false, false, false, false, false] rfl rfl (any_of HT_.out (by kernel_rfl)) (fun _ _ _ h => h) (Or.inl ⟨by rfl, ?_⟩) ?_ ?_
      rotate_left
      ·intro w'
       go_simp
       with_reducible rfl
      rotate_left
      ·simp only [Act.put, List.setIfInBounds_toArray, List.set_cons_zero, List.set_cons_succ, i64_w, i32_w]
       rfl
      refine pure_ (i := 6) (N := some 17) (v := ?_) (a' := ?_) #[true, true, true, true, true, false, true, false, false, false, false, false, false, false, false, false, false, false, false, false, false, false, false, false, false] rfl rfl (any_of HT_.out (by kernel_rfl)) (fun _ _ _ h => h) (Or.inl ⟨by rfl, ?_⟩) ?_ ?_
      rotate_left
      ·intro w'
       go_simp
       with_reducible rfl
      rotate_left
      ·simp only [Act.put, List.setIfInBounds_toArray, List.set_cons_zero, List.set_cons_succ, i64_w, i32_w]
       rfl
      refine pure_ (i := 7) (N := some 18) (v := ?_) (a' := ?_) #[true, true, true, true, true, false, true, true, false, false, false, false, false, false, false, false, false, false, false, false, false, false, false, false, false] rfl rfl (any_of HT_.out (by kernel_rfl)) (fun _ _ _ h => h) (Or.inl ⟨by rfl, ?_⟩) ?_ ?_
      rotate_left
      ·intro w'
       go_simp
       with_reducible rfl
      rotate_left
      ·simp only [Act.put, List.setIfInBounds_toArray, List.set_cons_zero, List.set_cons_succ, i64_w, i32_w]
       rfl
      refine pure_ (i := 8) (N := some 19) (v := ?_) (a' := ?_) #[true, true, true, true, true, false, true, true, true, false, false, false, false, false, false, false, false, false, false, false, false, false, false, false, false] rfl rfl (any_of HT_.out (by kernel_rfl)) (fun _ _ _ h => h) (Or.inl ⟨by rfl, ?_⟩) ?_ ?_
      rotate_left
      ·intro w'
       go_simp
       with_reducible rfl
      rotate_left
      ·simp only [Act.put, List.setIfInBounds_toArray, List.set_cons_zero, List.set_cons_succ, i64_w, i32_w]
       rfl
      refine pure_ (i := 9) (N := some 20) (v := ?_) (a' := ?_) #[true, true, true, true, true, false, true, true, true, true, false, false, false, false, false, false, false, false, false, false, false, false, false, false, false] rfl rfl (any_of HT_.out (by kernel_rfl)) (fun _ _ _ h => h) (Or.inl ⟨by rfl, ?_⟩) ?_ ?_
      rotate_left
      ·intro w'
       go_simp
       with_reducible rfl
      rotate_left
      ·simp only [Act.put, List.setIfInBounds_toArray, List.set_cons_zero, List.set_cons_succ, i64_w, i32_w]
       rfl
      refine pure_ (i := 11) (N := some 22) (v := ?_) (a' := ?_) #[true, true, true, true, true, false, true, true, true, true, false, true, false, false, false, false, false, false, false, false, false, false, false, false, false] rfl rfl (any_of HT_.out (by kernel_rfl)) (fun _ _ _ h => h) (Or.inl ⟨by rfl, ?_⟩) ?_ ?_
      rotate_left
      ·intro w'
       go_simp
       with_reducible rfl
      rotate_left
      ·simp only [Act.put, List.setIfInBounds_toArray, List.set_cons_zero, List.set_cons_succ, i64_w, i32_w]
       rfl
      refine pure_ (i := 12) (N := some 23) (v := ?_) (a' := ?_) #[true, true, true, true, true, false, true, true, true, true, false, true, true, false, false, false, false, false, false, false, false, false, false, false, false] rfl rfl (any_of HT_.out (by kernel_rfl)) (fun _ _ _ h => h) (Or.inl ⟨by rfl, ?_⟩) ?_ ?_
      rotate_left
      ·intro w'
       go_simp
       with_reducible rfl
      rotate_left
      ·simp only [Act.put, List.setIfInBounds_toArray, List.set_cons_zero, List.set_cons_succ, i64_w, i32_w]
       rfl
      refine pure_ (i := 13) (N := some 24) (v := ?_) (a' := ?_) #[true, true, true, true, true, false, true, true, true, true, false, true, true, true, false, false, false, false, false, false, false, false, false, false, false] rfl rfl (any_of HT_.out (by kernel_rfl)) (fun _ _ _ h => h) (Or.inl ⟨by rfl, ?_⟩) ?_ ?_
      rotate_left
      ·intro w'
       go_simp
       with_reducible rfl
      rotate_left
      ·simp only [Act.put, List.setIfInBounds_toArray, List.set_cons_zero, List.set_cons_succ, i64_w, i32_w]
       rfl
      refine pure_ (i := 14) (N := some 25) (v := ?_) (a' := ?_) #[true, true, true, true, true, false, true, true, true, true, false, true, true, true, true, false, false, false, false, false, false, false, false, false, false] rfl rfl (any_of HT_.out (by kernel_rfl)) (fun _ _ _ h => h) (Or.inl ⟨by rfl, ?_⟩) ?_ ?_
      rotate_left
      ·intro w'
       go_simp
       with_reducible rfl
      rotate_left
      ·simp only [Act.put, List.setIfInBounds_toArray, List.set_cons_zero, List.set_cons_succ, i64_w, i32_w]
       rfl
      refine pure_ (i := 16) (N := some 27) (v := ?_) (a' := ?_) #[true, true, true, true, true, false, true, true, true, true, false, true, true, true, true, false, true, false, false, false, false, false, false, false, false] rfl rfl (any_of HT_.out (by kernel_rfl)) (fun _ _ _ h => h) (Or.inl ⟨by rfl, ?_⟩) ?_ ?_
      rotate_left
      ·intro w'
       go_simp
       with_reducible rfl
      rotate_left
      ·simp only [Act.put, List.setIfInBounds_toArray, List.set_cons_zero, List.set_cons_succ, i64_w, i32_w]
       rfl
      refine pure_ (i := 17) (N := some 28) (v := ?_) (a' := ?_) #[true, true, true, true, true, false, true, true, true, true, false, true, true, true, true, false, true, true, false, false, false, false, false, false, false] rfl rfl (any_of HT_.out (by kernel_rfl)) (fun _ _ _ h => h) (Or.inl ⟨by rfl, ?_⟩) ?_ ?_
      rotate_left
      ·intro w'
       go_simp
       with_reducible rfl
      rotate_left
      ·simp only [Act.put, List.setIfInBounds_toArray, List.set_cons_zero, List.set_cons_succ, i64_w, i32_w]
       rfl
      refine pure_ (i := 18) (N := some 29) (v := ?_) (a' := ?_) #[true, true, true, true, true, false, true, true, true, true, false, true, true, true, true, false, true, true, true, false, false, false, false, false, false] rfl rfl (any_of HT_.out (by kernel_rfl)) (fun _ _ _ h => h) (Or.inl ⟨by rfl, ?_⟩) ?_ ?_
      rotate_left
      ·intro w'
       go_simp
       with_reducible rfl
      rotate_left
      ·simp only [Act.put, List.setIfInBounds_toArray, List.set_cons_zero, List.set_cons_succ, i64_w, i32_w]
       rfl
      refine pure_ (i := 19) (N := some 30) (v := ?_) (a' := ?_) #[true, true, true, true, true, false, true, true, true, true, false, true, true, true, true, false, true, true, true, true, false, false, false, false, false] rfl rfl (any_of HT_.out (by kernel_rfl)) (fun _ _ _ h => h) (Or.inl ⟨by rfl, ?_⟩) ?_ ?_
      rotate_left
      ·intro w'
       go_simp
       with_reducible rfl
      rotate_left
      ·simp only [Act.put, List.setIfInBounds_toArray, List.set_cons_zero, List.set_cons_succ, i64_w, i32_w]
       rfl
      refine take_ (i := 5) (N := some 16) (v := ?_) (a' := ?_) #[true, true, true, true, true, true, true, true, true, true, false, true, true, true, true, false, true, true, true, true, false, false, false, false, false] rfl rfl (take_ofW HT_.out HW_.out (by kernel_rfl)) (fun _ _ _ h => h) (Or.inl ⟨by rfl, ?_⟩) hHeld ?_ ?_
      rotate_left
      ·rintro w' ⟨s0, s1, s2, s3, s4, s5, s6, s7, s8, s9, s10, s11, s12, s13, s14, s15, s16, s17, s18, s19, s20, s21, s22, s23⟩
       go_simp
       with_reducible rfl
      rotate_left
      ·simp only [Act.put, List.setIfInBounds_toArray, List.set_cons_zero, List.set_cons_succ, i64_w, i32_w]
       rfl
      refine take_ (i := 10) (N := some 21) (v := ?_) (a' := ?_) #[true, true, true, true, true, true, true, true, true, true, true, true, true, true, true, false, true, true, true, true, false, false, false, false, false] rfl rfl (take_ofW HT_.out HW_.out (by kernel_rfl)) (fun _ _ _ h => h) (Or.inl ⟨by rfl, ?_⟩) hHeld ?_ ?_
      rotate_left
      ·rintro w' ⟨s0, s1, s2, s3, s4, s5, s6, s7, s8, s9, s10, s11, s12, s13, s14, s15, s16, s17, s18, s19, s20, s21, s22, s23⟩
       go_simp
       with_reducible rfl
      rotate_left
      ·simp only [Act.put, List.setIfInBounds_toArray, List.set_cons_zero, List.set_cons_succ, i64_w, i32_w]
       rfl
      refine take_ (i := 15) (N := some 26) (v := ?_) (a' := ?_) #[true, true, true, true, true, true, true, true, true, true, true, true, true, true, true, true, true, true, true, true, false, false, false, false, false] rfl rfl (take_ofW HT_.out HW_.out (by kernel_rfl)) (fun _ _ _ h => h) (Or.inl ⟨by rfl, ?_⟩) hHeld ?_ ?_
      rotate_left
      ·rintro w' ⟨s0, s1, s2, s3, s4, s5, s6, s7, s8, s9, s10, s11, s12, s13, s14, s15, s16, s17, s18, s19, s20, s21, s22, s23⟩
       go_simp
       with_reducible rfl
      rotate_left
      ·simp only [Act.put, List.setIfInBounds_toArray, List.set_cons_zero, List.set_cons_succ, i64_w, i32_w]
       rfl
      refine take_ (i := 20) (N := some 31) (v := ?_) (a' := ?_) #[true, true, true, true, true, true, true, true, true, true, true, true, true, true, true, true, true, true, true, true, true, false, false, false, false] rfl rfl (take_ofW HT_.out HW_.out (by kernel_rfl)) (fun _ _ _ h => h) (Or.inl ⟨by rfl, ?_⟩) hHeld ?_ ?_
      rotate_left
      ·rintro w' ⟨s0, s1, s2, s3, s4, s5, s6, s7, s8, s9, s10, s11, s12, s13, s14, s15, s16, s17, s18, s19, s20, s21, s22, s23⟩
       go_simp
       with_reducible rfl
      rotate_left
      ·simp only [Act.put, List.setIfInBounds_toArray, List.set_cons_zero, List.set_cons_succ, i64_w, i32_w]
       rfl
      refine pure_ (i := 21) (N := some 32) (v := ?_) (a' := ?_) #[true, true, true, true, true, true, true, true, true, true, true, true, true, true, true, true, true, true, true, true, true, true, false, false, false] rfl rfl (any_of HT_.out (by kernel_rfl)) (fun _ _ _ h => h) (Or.inl ⟨by rfl, ?_⟩) ?_ ?_
      rotate_left
      ·intro w'
       go_simp
       with_reducible rfl
      rotate_left
      ·simp only [Act.put, List.setIfInBounds_toArray, List.set_cons_zero, List.set_cons_succ, i64_w, i32_w]
       rfl
      refine one_ (i := 22) (N := some 33) #[true, true, true, true, true, true, true, true, true, true, true, true, true, true, true, true, true, true, true, true, true, true, true, false, false] rfl rfl (one_of HT_.out (by kernel_rfl)) (by decide) (fun K hK => ?_)
      refine value_ (w1 := ?_) (v := ?_) (by rfl) rfl ?_ ?_
      rotate_left 2
      ·go_simp
       constructor
       ·rfl
       ·rfl
      refine hK.out _ _ ⟨(World.cell?_alloc_lt _ _ _ (World.block_lt_of_cell? _ _ (((HB.out.cell (World.block_lt_of_cell? w _ hw655_0)).trans hw655_0)))).trans (((HB.out.cell (World.block_lt_of_cell? w _ hw655_0)).trans hw655_0)), (World.cell?_alloc_lt _ _ _ (World.block_lt_of_cell? _ _ (((HB.out.cell (World.block_lt_of_cell? w _ hw655_1)).trans hw655_1)))).trans (((HB.out.cell (World.block_lt_of_cell? w _ hw655_1)).trans hw655_1)), (World.cell?_alloc_lt _ _ _ (World.block_lt_of_cell? _ _ (((HB.out.cell (World.block_lt_of_cell? w _ hw655_2)).trans hw655_2)))).trans (((HB.out.cell (World.block_lt_of_cell? w _ hw655_2)).trans hw655_2)), (World.cell?_alloc_lt _ _ _ (World.block_lt_of_cell? _ _ (((HB.out.cell (World.block_lt_of_cell? w _ hw655_3)).trans hw655_3)))).trans (((HB.out.cell (World.block_lt_of_cell? w _ hw655_3)).trans hw655_3)), (World.cell?_alloc_lt _ _ _ (World.block_lt_of_cell? _ _ (((HB.out.cell (World.block_lt_of_cell? w _ hw655_4)).trans hw655_4)))).trans (((HB.out.cell (World.block_lt_of_cell? w _ hw655_4)).trans hw655_4)), (World.cell?_alloc_lt _ _ _ (World.block_lt_of_cell? _ _ (((HB.out.cell (World.block_lt_of_cell? w _ hw655_5)).trans hw655_5)))).trans (((HB.out.cell (World.block_lt_of_cell? w _ hw655_5)).trans hw655_5)), (World.cell?_alloc_lt _ _ _ (World.block_lt_of_cell? _ _ (((HB.out.cell (World.block_lt_of_cell? w _ hw656_0)).trans hw656_0)))).trans (((HB.out.cell (World.block_lt_of_cell? w _ hw656_0)).trans hw656_0)), (World.cell?_alloc_lt _ _ _ (World.block_lt_of_cell? _ _ (((HB.out.cell (World.block_lt_of_cell? w _ hw656_1)).trans hw656_1)))).trans (((HB.out.cell (World.block_lt_of_cell? w _ hw656_1)).trans hw656_1)), (World.cell?_alloc_lt _ _ _ (World.block_lt_of_cell? _ _ (((HB.out.cell (World.block_lt_of_cell? w _ hw656_2)).trans hw656_2)))).trans (((HB.out.cell (World.block_lt_of_cell? w _ hw656_2)).trans hw656_2)), (World.cell?_alloc_lt _ _ _ (World.block_lt_of_cell? _ _ (((HB.out.cell (World.block_lt_of_cell? w _ hw656_3)).trans hw656_3)))).trans (((HB.out.cell (World.block_lt_of_cell? w _ hw656_3)).trans hw656_3)), (World.cell?_alloc_lt _ _ _ (World.block_lt_of_cell? _ _ (((HB.out.cell (World.block_lt_of_cell? w _ hw656_4)).trans hw656_4)))).trans (((HB.out.cell (World.block_lt_of_cell? w _ hw656_4)).trans hw656_4)), (World.cell?_alloc_lt _ _ _ (World.block_lt_of_cell? _ _ (((HB.out.cell (World.block_lt_of_cell? w _ hw656_5)).trans hw656_5)))).trans (((HB.out.cell (World.block_lt_of_cell? w _ hw656_5)).trans hw656_5)), (World.cell?_alloc_lt _ _ _ (World.block_lt_of_cell? _ _ (((HB.out.cell (World.block_lt_of_cell? w _ hw657_0)).trans hw657_0)))).trans (((HB.out.cell (World.block_lt_of_cell? w _ hw657_0)).trans hw657_0)), (World.cell?_alloc_lt _ _ _ (World.block_lt_of_cell? _ _ (((HB.out.cell (World.block_lt_of_cell? w _ hw657_1)).trans hw657_1)))).trans (((HB.out.cell (World.block_lt_of_cell? w _ hw657_1)).trans hw657_1)), (World.cell?_alloc_lt _ _ _ (World.block_lt_of_cell? _ _ (((HB.out.cell (World.block_lt_of_cell? w _ hw657_2)).trans hw657_2)))).trans (((HB.out.cell (World.block_lt_of_cell? w _ hw657_2)).trans hw657_2)), (World.cell?_alloc_lt _ _ _ (World.block_lt_of_cell? _ _ (((HB.out.cell (World.block_lt_of_cell? w _ hw657_3)).trans hw657_3)))).trans (((HB.out.cell (World.block_lt_of_cell? w _ hw657_3)).trans hw657_3)), (World.cell?_alloc_lt _ _ _ (World.block_lt_of_cell? _ _ (((HB.out.cell (World.block_lt_of_cell? w _ hw657_4)).trans hw657_4)))).trans (((HB.out.cell (World.block_lt_of_cell? w _ hw657_4)).trans hw657_4)), (World.cell?_alloc_lt _ _ _ (World.block_lt_of_cell? _ _ (((HB.out.cell (World.block_lt_of_cell? w _ hw657_5)).trans hw657_5)))).trans (((HB.out.cell (World.block_lt_of_cell? w _ hw657_5)).trans hw657_5)), (World.cell?_alloc_lt _ _ _ (World.block_lt_of_cell? _ _ (((HB.out.cell (World.block_lt_of_cell? w _ hw658_0)).trans hw658_0)))).trans (((HB.out.cell (World.block_lt_of_cell? w _ hw658_0)).trans hw658_0)), (World.cell?_alloc_lt _ _ _ (World.block_lt_of_cell? _ _ (((HB.out.cell (World.block_lt_of_cell? w _ hw658_1)).trans hw658_1)))).trans (((HB.out.cell (World.block_lt_of_cell? w _ hw658_1)).trans hw658_1)), (World.cell?_alloc_lt _ _ _ (World.block_lt_of_cell? _ _ (((HB.out.cell (World.block_lt_of_cell? w _ hw658_2)).trans hw658_2)))).trans (((HB.out.cell (World.block_lt_of_cell? w _ hw658_2)).trans hw658_2)), (World.cell?_alloc_lt _ _ _ (World.block_lt_of_cell? _ _ (((HB.out.cell (World.block_lt_of_cell? w _ hw658_3)).trans hw658_3)))).trans (((HB.out.cell (World.block_lt_of_cell? w _ hw658_3)).trans hw658_3)), (World.cell?_alloc_lt _ _ _ (World.block_lt_of_cell? _ _ (((HB.out.cell (World.block_lt_of_cell? w _ hw658_4)).trans hw658_4)))).trans (((HB.out.cell (World.block_lt_of_cell? w _ hw658_4)).trans hw658_4)), (World.cell?_alloc_lt _ _ _ (World.block_lt_of_cell? _ _ (((HB.out.cell (World.block_lt_of_cell? w _ hw658_5)).trans hw658_5)))).trans (((HB.out.cell (World.block_lt_of_cell? w _ hw658_5)).trans hw658_5))⟩ (fun hHeld => ?_)
      clear hK K
      refine norm_ (a' := ?_) ?_ ?_
      rotate_left
      ·show Act.put _ (some 33) _ = _
       simp only [Act.put, List.setIfInBounds_toArray, List.set_cons_zero, List.set_cons_succ, i64_w, i32_w]
       rfl
      refine one_ (i := 23) (N := some 34) #[true, true, true, true, true, true, true, true, true, true, true, true, true, true, true, true, true, true, true, true, true, true, true, true, false] rfl rfl (one_of HT_.out (by kernel_rfl)) (by decide) (fun K hK => ?_)
      refine Kd.R_append_step k81 (w0 := w) w.heap.size (by rfl) (.tmp 11) (.tmp 33) 46 81 (.agg #[(.int .i64 0), (.int .i64 0), (.string ⟨#[]⟩), (.int .i64 0), (.int .i64 0), (.string ⟨#[]⟩)]) 64 rfl Tryd.underlying46 info81 rfl (by decide) (by omega) u3 x3_1 (⟨(rd_T68 l0 x4_1).f0, (rd_T68 l0 x4_1).f1, (rd_T68 l0 x4_1).f2, (⟨(rd_T68 l0 x4_1).f3.f0, (rd_T68 l0 x4_1).f3.f1, (rd_T68 l0 x4_1).f3.f2⟩ : S29)⟩ : S81) [.int .i64 ((rd_T68 l0 x4_1).f0), .int .i64 ((rd_T68 l0 x4_1).f1), .string ((rd_T68 l0 x4_1).f2), .int .i64 ((rd_T68 l0 x4_1).f3.f0), .int .i64 ((rd_T68 l0 x4_1).f3.f1), .string ((rd_T68 l0 x4_1).f3.f2)] (fun _ => True) (fun _ => False) rfl rfl ?aP (fun _ hk => hk.elim) ?aF ?aO ?aB ?aS ?aL ?_
      (case aP => exact k81_mkM _ _ _ (⟨(rd_T68 l0 x4_1).f0, (rd_T68 l0 x4_1).f1, (rd_T68 l0 x4_1).f2, (⟨(rd_T68 l0 x4_1).f3.f0, (rd_T68 l0 x4_1).f3.f1, (rd_T68 l0 x4_1).f3.f2⟩ : S29)⟩ : S81))
      (case aB => exact bwA)
      (case aF => exact (fun _ _ => trivial))
      (case aO => exact (by (with_reducible repeat (first | apply Kd.R_alloc | apply Kd.R_drewN | apply Kd.R_drew)); exact HO_3.out))
      (case aS => exact (below_size bwA))
      (case aL => have := LMc4.out; omega)
      intro v660 w6 ho hb hg hat
      rw [← Ny659.out] at ho
      have n0_ := Aside0.mk (hb)
      have n1_ := Aside0.mk (ho)
      clear HB
      clear HO_3
      have HB := n0_
      have HO661 := n1_
      clear n0_ n1_
      clear ho hb hg hat
      refine hK.out _ _ ⟨((HB.out.cell (World.block_lt_of_cell? w _ hw655_0)).trans hw655_0), ((HB.out.cell (World.block_lt_of_cell? w _ hw655_1)).trans hw655_1), ((HB.out.cell (World.block_lt_of_cell? w _ hw655_2)).trans hw655_2), ((HB.out.cell (World.block_lt_of_cell? w _ hw655_3)).trans hw655_3), ((HB.out.cell (World.block_lt_of_cell? w _ hw655_4)).trans hw655_4), ((HB.out.cell (World.block_lt_of_cell? w _ hw655_5)).trans hw655_5), ((HB.out.cell (World.block_lt_of_cell? w _ hw656_0)).trans hw656_0), ((HB.out.cell (World.block_lt_of_cell? w _ hw656_1)).trans hw656_1), ((HB.out.cell (World.block_lt_of_cell? w _ hw656_2)).trans hw656_2), ((HB.out.cell (World.block_lt_of_cell? w _ hw656_3)).trans hw656_3), ((HB.out.cell (World.block_lt_of_cell? w _ hw656_4)).trans hw656_4), ((HB.out.cell (World.block_lt_of_cell? w _ hw656_5)).trans hw656_5), ((HB.out.cell (World.block_lt_of_cell? w _ hw657_0)).trans hw657_0), ((HB.out.cell (World.block_lt_of_cell? w _ hw657_1)).trans hw657_1), ((HB.out.cell (World.block_lt_of_cell? w _ hw657_2)).trans hw657_2), ((HB.out.cell (World.block_lt_of_cell? w _ hw657_3)).trans hw657_3), ((HB.out.cell (World.block_lt_of_cell? w _ hw657_4)).trans hw657_4), ((HB.out.cell (World.block_lt_of_cell? w _ hw657_5)).trans hw657_5), ((HB.out.cell (World.block_lt_of_cell? w _ hw658_0)).trans hw658_0), ((HB.out.cell (World.block_lt_of_cell? w _ hw658_1)).trans hw658_1), ((HB.out.cell (World.block_lt_of_cell? w _ hw658_2)).trans hw658_2), ((HB.out.cell (World.block_lt_of_cell? w _ hw658_3)).trans hw658_3), ((HB.out.cell (World.block_lt_of_cell? w _ hw658_4)).trans hw658_4), ((HB.out.cell (World.block_lt_of_cell? w _ hw658_5)).trans hw658_5)⟩ (fun hHeld => ?_)
      clear hK K
      refine norm_ (a' := ?_) ?_ ?_
      rotate_left
      ·show Act.put _ (some 34) _ = _
       simp only [Act.put, List.setIfInBounds_toArray, List.set_cons_zero, List.set_cons_succ, i64_w, i32_w]
       rfl
      refine pure_ (i := 24) (N := some 3) (v := ?_) (a' := ?_) #[true, true, true, true, true, true, true, true, true, true, true, true, true, true, true, true, true, true, true, true, true, true, true, true, true] rfl rfl (any_of HT_.out (by kernel_rfl)) (fun _ _ _ h => h) (Or.inl ⟨by rfl, ?_⟩) ?_ ?_
      rotate_left
      ·intro w'
       go_simp
       with_reducible rfl
      rotate_left
      ·simp only [Act.put, List.setIfInBounds_toArray, List.set_cons_zero, List.set_cons_succ, i64_w, i32_w]
       rfl
      refine done_ (done_of HT_.out (by kernel_rfl)) ?_
      try go_wp2
      go_roundg k1
      case measure => have := HK1.out; omega
      case rel => exact ⟨(y659), (wrap64 (x4_1 + 1)), (by first | rfl | (simp; done) | (simp [*]; done)), H', ⟨by have := HK1.out; omega⟩, ⟨by (with_reducible repeat (first | apply Kd.R_alloc | apply Kd.R_drewN | apply Kd.R_drew)); exact HO661.out⟩, ⟨by repeat (first | (with_reducible first | exact HB.out | apply below_alloc | apply pw_below_drewN | apply below_drew1) | exact HB.out)⟩⟩
     ·rw [if_neg c4] at H
      exact absurd H (by simp)
    ·rw [if_neg c3] at H
     exact absurd H (by simp)
   ·rw [if_neg c2] at H
    have c2b0 : decide (x4_1 < (l0.length : Int)) = false := decide_eq_false c2
    clear c2
    obtain rfl := Option.some.inj H
    go_wp2
    go_ret
    exact ⟨_, by first | rfl | (simp [errW_none, errW_some] <;> rfl) | (simp [*, errW_none, errW_some] <;> rfl), by (with_reducible repeat (first | apply Kd.R_alloc | apply Kd.R_drewN | apply Kd.R_drew)); exact HO_3.out, by repeat (first | (with_reducible first | exact HB.out | apply below_alloc | apply pw_below_drewN | apply below_drew1) | exact HB.out)⟩

end Go.Proofs.YtoajlmmkkcelgaaDoor.A
