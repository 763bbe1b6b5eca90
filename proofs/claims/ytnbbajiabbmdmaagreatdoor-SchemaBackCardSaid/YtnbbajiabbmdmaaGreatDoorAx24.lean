-- By drv.py, the session's own driver round the kit's print: the machine's side of the laws, function by function. Not trusted: Lean checks it.
import Derived.Test.YtnbbajiabbmdmaaGreatDoorAx0
import Derived.Test.YtnbbajiabbmdmaaGreatDoorAx9
import Derived.Test.YtnbbajiabbmdmaaGreatDoorAx16
import Derived.Test.YtnbbajiabbmdmaaGreatDoorAx17
import Derived.Test.YtnbbajiabbmdmaaGreatDoorAx23
namespace Go.Proofs.YtnbbajiabbmdmaaGreatDoor.A
open Go.RowKit Go.Proofs.YtnbbajiabbmdmaaGreatDoorW.PrintWords Go.Proofs.YtnbbajiabbmdmaaGreatDoorW.PrintLast Go.Proofs.YtnbbajiabbmdmaaGreatDoorW.PrintMore
attribute [local go_sem] max2_int min2_int max_two min_two max_three min_three max_four min_four   -- for this text's walks alone
set_option linter.unusedVariables false
set_option linter.unusedSimpArgs false

/-! ### schema_ReadAttrs: function 31 -/
def schema_ReadAttrs.l0 : Nat → List (S44) → ByteArray → Int → Int → Option ((List (S44)) × ByteArray × Int)
 | 0, _, _, _, _ => none
 | k + 1, x2, x3, x24, x25 => if x25 < x24 then ((quic_Take.f k x3 (([4] : List Int))).bind fun bt548 => (if bt548.2.2 = 0 then ((value_Read.f k bt548.2.1).bind fun bt553 => (if bt553.2.2.2.2 = 0 then (if 0 < (bt548.1.length : Int) then (if x2.length < 2932031007402 then (schema_ReadAttrs.l0 k (x2 ++ [(⟨(rd_T101 bt548.1 0).f2, (⟨bt553.1, bt553.2.1, bt553.2.2.1⟩ : S37)⟩ : S44)]) bt553.2.2.2.1 x24 (wrap64 (x25 + 1))) else (none)) else (none)) else (some (([] : List (S44)), (⟨#[]⟩ : ByteArray), bt553.2.2.2.2)))) else (some (([] : List (S44)), (⟨#[]⟩ : ByteArray), bt548.2.2)))) else ((schema_Attrs.f k x2).bind fun t544 => (if t544 = true then (some (x2, x3, 0)) else (some (([] : List (S44)), (⟨#[]⟩ : ByteArray), 3))))
def schema_ReadAttrs.f (k : Nat) (a0 : ByteArray) : Option ((List (S44)) × ByteArray × Int) := (quic_Get.f k a0).bind fun bt541 => (if bt541.2.2 = 0 then (if bt541.1 > 24 then (some (([] : List (S44)), (⟨#[]⟩ : ByteArray), 2)) else (schema_ReadAttrs.l0 k ([] : List (S44)) bt541.2.1 bt541.1 0)) else (some (([] : List (S44)), (⟨#[]⟩ : ByteArray), bt541.2.2)))
theorem schema_ReadAttrs.mono_l : ∀ k, (∀ y0 y1 y2 y3, LeO (schema_ReadAttrs.l0 k y0 y1 y2 y3) (schema_ReadAttrs.l0 (k + 1) y0 y1 y2 y3))
 | 0 => fun _ _ _ _ r h => by simp [schema_ReadAttrs.l0] at h
 | k + 1 => by
  have ih0 := schema_ReadAttrs.mono_l k
  ·intro y0 y1 y2 y3
   unfold schema_ReadAttrs.l0
   repeat' first
   | (with_reducible exact ih0 _ _ _ _)
   | (with_reducible exact quic_Get.mono _ _)
   | (with_reducible exact quic_Take.mono _ _ _)
   | (with_reducible exact schema_Attrs.mono _ _)
   | (with_reducible exact value_Read.mono _ _)
   | (with_reducible exact LeO.refl _)
   | (with_reducible exact LeO.none _)
   | (with_reducible refine LeO.ite ?_ ?_)
   | (with_reducible refine LeO.bind ?_ (fun _ => ?_))
   | exact ih0 _ _ _ _
   | exact quic_Get.mono _ _
   | exact quic_Take.mono _ _ _
   | exact schema_Attrs.mono _ _
   | exact value_Read.mono _ _
   | exact LeO.none _
   | refine LeO.ite ?_ ?_
   | refine LeO.bind ?_ (fun _ => ?_)
theorem schema_ReadAttrs.mono : ∀ a0 k, LeO (schema_ReadAttrs.f k a0) (schema_ReadAttrs.f (k + 1) a0) := by
 intro a0 k
 have ih0 := schema_ReadAttrs.mono_l k
 unfold schema_ReadAttrs.f
 repeat' first
   | (with_reducible exact ih0 _ _ _ _)
   | (with_reducible exact quic_Get.mono _ _)
   | (with_reducible exact quic_Take.mono _ _ _)
   | (with_reducible exact schema_Attrs.mono _ _)
   | (with_reducible exact value_Read.mono _ _)
   | (with_reducible exact LeO.refl _)
   | (with_reducible exact LeO.none _)
   | (with_reducible refine LeO.ite ?_ ?_)
   | (with_reducible refine LeO.bind ?_ (fun _ => ?_))
   | exact ih0 _ _ _ _
   | exact quic_Get.mono _ _
   | exact quic_Take.mono _ _ _
   | exact schema_Attrs.mono _ _
   | exact value_Read.mono _ _
   | exact LeO.none _
   | refine LeO.ite ?_ ?_
   | refine LeO.bind ?_ (fun _ => ?_)
def schema_ReadAttrs.T14 : Bool × List (List Nat × List Nat) := (true, [([], []), ([], []), ([1], [1]), ([2], [2]), ([3], [3]), ([], []), ([4, 5], [4, 5]), ([6], [6]), ([0, 7], [0, 7]), ([], []), ([8, 8, 0, 1, 2, 3, 4, 5, 6, 7, 8], [0, 8]), ([9, 10, 0, 1, 2, 3, 4, 5, 6, 7, 8, 9, 10], [9])])
def schema_ReadAttrs.B14 : List Nat := [0, 0, 2, 6, 14, 0, 62, 126, 255, 0, 511, 2047]
theorem schema_ReadAttrs.tab14 : rtab .any (opsOf Tryz.f31 14) = schema_ReadAttrs.T14 := by kernel_rfl
theorem schema_ReadAttrs.bits14 : waitsOk schema_ReadAttrs.T14.2 schema_ReadAttrs.B14 = true := by kernel_rfl
set_option maxHeartbeats 8000000 in
set_option maxRecDepth 100000 in
theorem schema_ReadAttrs.calls (k : Nat) (a0 : ByteArray) (r1 : List (S44)) (r2 : ByteArray) (r3 : Int) (w : World) (hT : Tabs w) (h : schema_ReadAttrs.f k a0 = some (r1, r2, r3)) :
  Calls Tryz.prog 31 #[.string a0] w fun e w' => ∃ v0_ : Value, e = .returned (.tuple #[v0_, .string r2, .int .i64 r3]) ∧ Kd.R k44 44 w' w.heap.size (fun _ => True) v0_ r1 ∧ Below w.heap.size w w' := by
 have hu37 := Tryz.underlying37
 have hu44 := Tryz.underlying44
 have HB := Aside0.mk (Below.refl w.heap.size w)
 have H : ((quic_Get.f k a0).bind fun bt541 => (if bt541.2.2 = 0 then (if bt541.1 > 24 then (some (([] : List (S44)), (⟨#[]⟩ : ByteArray), 2)) else (schema_ReadAttrs.l0 k ([] : List (S44)) bt541.2.1 bt541.1 0)) else (some (([] : List (S44)), (⟨#[]⟩ : ByteArray), bt541.2.2)))) = some (r1, r2, r3) := h
 clear h
 have HT := Aside0.mk hT
 clear hT
 replace H := Option.bind_eq_some_iff.mp H
 obtain ⟨⟨t541, t542, t543⟩, A20, H⟩ := H
 replace H : (if t543 = 0 then (if t541 > 24 then (some (([] : List (S44)), (⟨#[]⟩ : ByteArray), 2)) else (schema_ReadAttrs.l0 k ([] : List (S44)) t542 t541 0)) else (some (([] : List (S44)), (⟨#[]⟩ : ByteArray), t543))) = some (r1, r2, r3) := H
 have A2 := Aside0.mk A20
 clear A20
 by_cases c3 : t543 = 0
 ·rw [if_pos c3] at H
  have c3b0 : (t543 == 0) = true := beq_iff_eq.mpr c3
  have c3b1 : (t543 != 0) = false := bne_eq_false_iff_eq.mpr c3
  clear c3
  by_cases c4 : t541 > 24
  ·rw [if_pos c4] at H
   have c4b0 : decide (24 < t541) = true := decide_eq_true c4
   clear c4
   simp only [Option.some.injEq, Prod.mk.injEq] at H
   obtain ⟨rfl, rfl, rfl⟩ := H
   go_enter Tryz.func31, Tryz.ntmps31
   go_wp2_with (first | ((with_reducible refine gate_callee (f := 62) rfl ?_); refine goesA (some 13) Tryz.func62 #[.string a0] ?_; (with_reducible refine (quic_Get.calls k a0 t541 t542 t543 _ A2.out).mono ?_); rintro e w' ⟨rfl, ⟨nd, rfl⟩⟩; refine ⟨_, rfl, ?_⟩))
   go_ret3
   exact ⟨_, endA, by first | exact Kd.R_nil _ _ _ _ _ | exact Kd.N_nil _ _ _ _ _ | exact Kd.V_nil _ _ _ _ _ | exact Kd.Q_nil _ _ _ _ _ | exact Kd.S_nil _ _ _ _ _, bwA⟩
  ·rw [if_neg c4] at H
   have c4b0 : decide (24 < t541) = false := decide_eq_false c4
   clear c4
   have H' := Aside0.mk H
   clear H
   go_enter Tryz.func31, Tryz.ntmps31
   go_wp2_with (first | ((with_reducible refine gate_callee (f := 62) rfl ?_); refine goesA (some 13) Tryz.func62 #[.string a0] ?_; (with_reducible refine (quic_Get.calls k a0 t541 t542 t543 _ A2.out).mono ?_); rintro e w' ⟨rfl, ⟨nd, rfl⟩⟩; refine ⟨_, rfl, ?_⟩))
   go_loopg [2, 3, 25] k (fun kq v2 v3 v25 w' => ∃ (x2_1 : List (S44)) (x3_1 : ByteArray) (x25_1 : Int), v3 = .string x3_1 ∧ v25 = .int .i64 x25_1 ∧ Aside0 (schema_ReadAttrs.l0 kq x2_1 x3_1 t541 x25_1 = some (r1, r2, r3)) ∧ Aside0 (kq ≤ k) ∧ Aside0 (Kd.R k44 44 w' w.heap.size (fun _ => True) v2 x2_1) ∧ Aside0 (Below w.heap.size w w'))
   case atStart => exact ⟨(([] : List (S44))), (t542), (0), (endS), (endS), H', ⟨Nat.le_refl _⟩, ⟨by first | exact Kd.R_nil _ _ _ _ _ | exact Kd.N_nil _ _ _ _ _ | exact Kd.V_nil _ _ _ _ _ | exact Kd.Q_nil _ _ _ _ _ | exact Kd.S_nil _ _ _ _ _⟩, ⟨bwA⟩⟩
   case round =>
    clear H'
    try clear p2
    try clear c3
    try clear c3b0
    try clear c3b1
    try clear c4
    try clear c4b0
    obtain ⟨x2_1, x3_1, x25_1, rfl, rfl, HA, HK1, HO_2, HB⟩ := hrel
    cases gk with
    | zero => exact absurd HA.out (by simp [schema_ReadAttrs.l0])
    | succ k1 =>
     have H := HA.out
     clear HA
     simp only [schema_ReadAttrs.l0] at H
     by_cases c5 : x25_1 < t541
     ·rw [if_pos c5] at H
      have c5b0 : decide (x25_1 < t541) = true := decide_eq_true c5
      clear c5
      obtain ⟨y545, hy545⟩ : ∃ y_ : List Int, y_ = (([4] : List Int)) := ⟨_, rfl⟩
      replace H : ((quic_Take.f k1 x3_1 y545).bind fun bt548 => (if bt548.2.2 = 0 then ((value_Read.f k1 bt548.2.1).bind fun bt553 => (if bt553.2.2.2.2 = 0 then (if 0 < (bt548.1.length : Int) then (if x2_1.length < 2932031007402 then (schema_ReadAttrs.l0 k1 (x2_1 ++ [(⟨(rd_T101 bt548.1 0).f2, (⟨bt553.1, bt553.2.1, bt553.2.2.1⟩ : S37)⟩ : S44)]) bt553.2.2.2.1 t541 (wrap64 (x25_1 + 1))) else (none)) else (none)) else (some (([] : List (S44)), (⟨#[]⟩ : ByteArray), bt553.2.2.2.2)))) else (some (([] : List (S44)), (⟨#[]⟩ : ByteArray), bt548.2.2)))) = some (r1, r2, r3) := by first | (rw [hy545]; with_reducible exact H) | (have H2_ := (Option.bind_some _ _).symm.trans H; rw [hy545]; with_reducible exact H2_) | (have H2_ := (Option.bind_some _ _).symm.trans H; with_reducible exact H2_) | with_reducible exact H | (rw [hy545]; exact H) | exact H
      have Ny545 := Aside0.mk hy545
      clear hy545
      replace H := Option.bind_eq_some_iff.mp H
      obtain ⟨⟨t548, t549, t550⟩, A60, H⟩ := H
      replace H : (if t550 = 0 then ((value_Read.f k1 t549).bind fun bt553 => (if bt553.2.2.2.2 = 0 then (if 0 < (t548.length : Int) then (if x2_1.length < 2932031007402 then (schema_ReadAttrs.l0 k1 (x2_1 ++ [(⟨(rd_T101 t548 0).f2, (⟨bt553.1, bt553.2.1, bt553.2.2.1⟩ : S37)⟩ : S44)]) bt553.2.2.2.1 t541 (wrap64 (x25_1 + 1))) else (none)) else (none)) else (some (([] : List (S44)), (⟨#[]⟩ : ByteArray), bt553.2.2.2.2)))) else (some (([] : List (S44)), (⟨#[]⟩ : ByteArray), t550))) = some (r1, r2, r3) := H
      have A6 := Aside0.mk A60
      clear A60
      by_cases c7 : t550 = 0
      ·rw [if_pos c7] at H
       have c7b0 : (t550 == 0) = true := beq_iff_eq.mpr c7
       have c7b1 : (t550 != 0) = false := bne_eq_false_iff_eq.mpr c7
       clear c7
       replace H := Option.bind_eq_some_iff.mp H
       obtain ⟨⟨t553, t554, t555, t556, t557⟩, A80, H⟩ := H
       replace H : (if t557 = 0 then (if 0 < (t548.length : Int) then (if x2_1.length < 2932031007402 then (schema_ReadAttrs.l0 k1 (x2_1 ++ [(⟨(rd_T101 t548 0).f2, (⟨t553, t554, t555⟩ : S37)⟩ : S44)]) t556 t541 (wrap64 (x25_1 + 1))) else (none)) else (none)) else (some (([] : List (S44)), (⟨#[]⟩ : ByteArray), t557))) = some (r1, r2, r3) := H
       have A8 := Aside0.mk A80
       clear A80
       by_cases c9 : t557 = 0
       ·rw [if_pos c9] at H
        have c9b0 : (t557 == 0) = true := beq_iff_eq.mpr c9
        have c9b1 : (t557 != 0) = false := bne_eq_false_iff_eq.mpr c9
        clear c9
        by_cases c10 : 0 < (t548.length : Int)
        ·rw [if_pos c10] at H
         have c10b0 : decide (0 < (t548.length : Int)) = true := decide_eq_true c10
         have c10b1 : decide (0 < t548.length) = true := decide_eq_true (by omega)
         clear c10
         by_cases c11 : x2_1.length < 2932031007402
         ·rw [if_pos c11] at H
          have LMc11 := Aside0.mk c11
          clear c11
          obtain ⟨y560, hy560⟩ : ∃ y_ : List (S44), y_ = (x2_1 ++ [(⟨(rd_T101 t548 0).f2, (⟨t553, t554, t555⟩ : S37)⟩ : S44)]) := ⟨_, rfl⟩
          replace H : (schema_ReadAttrs.l0 k1 y560 t556 t541 (wrap64 (x25_1 + 1))) = some (r1, r2, r3) := by first | (rw [hy560]; with_reducible exact H) | (have H2_ := (Option.bind_some _ _).symm.trans H; rw [hy560]; with_reducible exact H2_) | (have H2_ := (Option.bind_some _ _).symm.trans H; with_reducible exact H2_) | with_reducible exact H | (rw [hy560]; exact H) | exact H
          have Ny560 := Aside0.mk hy560
          clear hy560
          have H' := Aside0.mk H
          clear H
          try go_wp2_with (first | ((with_reducible refine gate_dst (N := 29) rfl ?_); refine Kd.R_lit (Kd.int .i64) _ 3 ?hg (N := 29) ?hd (xs := ([4] : List Int)) (inner := [.int .i64 4]) (ok := fun _ => True) (okp := fun _ => True) ?hr ?hp (fun _ hk => hk) trivial (Below.refl _ _) (Nat.le_refl _) (by simp) ?_; (case hd => rfl); (case hg => rfl); (case hr => first | (go_simp; done) | (go_simp; rfl)); (case hp => exact (Reps.one (show Kd.M (Kd.int .i64) _ _ _ 4 [.int .i64 4] from rfl) (Reps.none _ _))); intro v546 w12 ho13 hb hg_ hnew_; clear hg_ hnew_; (first | rw [← Ny545.out] at ho13 | (simp only [Int.reduceToNat] at ho13; rw [← Ny545.out] at ho13)); have n0_ := Aside0.mk (Kd.R_below (by (with_reducible repeat (first | apply Kd.R_alloc | apply Kd.R_drewN | apply Kd.R_drew)); exact HO_2.out) hb); have n1_ := Aside0.mk (Kd.R_lower ho13 (below_size (bwA))); have n2_ := Aside0.mk (below_step (bwA) hb); clear HO_2; clear HB; have HO_2 := n0_; have HO547 := n1_; have HB := n2_; clear n0_ n1_ n2_; clear hb ho13; obtain ⟨Ao14, co14, eo14⟩ := Kd.R_slice HO547.out; subst eo14) | ((with_reducible refine gate_callee (f := 63) rfl ?_); refine goesA (some 30) Tryz.func63 #[.string x3_1, .slice Ao14 y545.length co14] ?_; (with_reducible refine (quic_Take.calls k1 x3_1 _ _ y545 t548 t549 t550 _ ?side1 ?side2 A6.out).mono ?_); (case side1 => repeat (first | exact (Kd.R_reads' HO547.out).2.2 | (with_reducible refine Kd.C_alloc ?_ _) | (with_reducible refine Kd.C_drewN ?_ _) | (with_reducible refine Kd.C_drew ?_))); (case side2 => exact (Kd.R_reads' HO547.out).2.1); rintro e w15 ⟨v551, rfl, ho0, hb⟩; refine ⟨_, rfl, ?_⟩; have n0_ := Aside0.mk (Kd.R_below (by (with_reducible repeat (first | apply Kd.R_alloc | apply Kd.R_drewN | apply Kd.R_drew)); exact HO_2.out) hb); have n1_ := Aside0.mk (Kd.R_below (by (with_reducible repeat (first | apply Kd.R_alloc | apply Kd.R_drewN | apply Kd.R_drew)); exact HO547.out) hb); have n2_ := Aside0.mk (Kd.R_lower ho0 (below_size (bwA))); have n3_ := Aside0.mk (below_step (bwA) hb); clear HO_2; clear HO547; clear HB; have HO_2 := n0_; have HO547 := n1_; have HO552 := n2_; have HB := n3_; clear n0_ n1_ n2_ n3_; (try clear hb); (try clear hb2); (try clear hk); (try clear hi); (try clear ho0)) | ((with_reducible refine gate_callee (f := 70) rfl ?_); refine goesA (some 39) Tryz.func70 #[.string t549] ?_; (with_reducible refine (value_Read.calls k1 t549 t553 t554 t555 t556 t557 _ ?side1 A8.out).mono ?_); (case side1 => exact Tabs.below HT.out (bwA)); rintro e w16 ⟨rfl, hb⟩; refine ⟨_, rfl, ?_⟩; have n0_ := Aside0.mk (Kd.R_below (by (with_reducible repeat (first | apply Kd.R_alloc | apply Kd.R_drewN | apply Kd.R_drew)); exact HO_2.out) hb); have n1_ := Aside0.mk (Kd.R_below (by (with_reducible repeat (first | apply Kd.R_alloc | apply Kd.R_drewN | apply Kd.R_drew)); exact HO547.out) hb); have n2_ := Aside0.mk (Kd.R_below (by (with_reducible repeat (first | apply Kd.R_alloc | apply Kd.R_drewN | apply Kd.R_drew)); exact HO552.out) hb); have n3_ := Aside0.mk (below_step (bwA) hb); clear HO_2; clear HO547; clear HO552; clear HB; have HO_2 := n0_; have HO547 := n1_; have HO552 := n2_; have HB := n3_; clear n0_ n1_ n2_ n3_; (try clear hb); (try clear hb2); (try clear hk); (try clear hi)) | ((with_reducible refine gate_dst (N := 9) rfl ?_); refine box_event ?hg (N := 9) ?hd (cs := #[.int .i64 0, .int .i64 0, .string (⟨#[]⟩ : ByteArray)]) (t := 37) ?hr ?_; (case hd => rfl); (case hg => rfl); (case hr => first | (go_simp; done) | (go_simp; rfl)); intro gb558 hg w17 hbox hb; have n0_ := Aside0.mk (Kd.R_below (by (with_reducible repeat (first | apply Kd.R_alloc | apply Kd.R_drewN | apply Kd.R_drew)); exact HO_2.out) hb); have n1_ := Aside0.mk (Kd.R_below (by (with_reducible repeat (first | apply Kd.R_alloc | apply Kd.R_drewN | apply Kd.R_drew)); exact HO547.out) hb); have n2_ := Aside0.mk (Kd.R_below (by (with_reducible repeat (first | apply Kd.R_alloc | apply Kd.R_drewN | apply Kd.R_drew)); exact HO552.out) hb); have n3_ := Aside0.mk (below_step (bwA) hb); have n4_ := Aside0.mk (hbox); have n5_ := Aside0.mk ((by rw [hg]; exact (below_size (bwA)) : w.heap.size ≤ gb558)); have n6_ := Aside0.mk ((by rw [hg]; exact (below_size (bwA)) : w.heap.size ≤ gb558)); clear HO_2; clear HO547; clear HO552; clear HB; have HO_2 := n0_; have HO547 := n1_; have HO552 := n2_; have HB := n3_; have BK558 := n4_; have GW558 := n5_; have GE558 := n6_; clear n0_ n1_ n2_ n3_ n4_ n5_ n6_; clear hb hbox hg; have hcz18_0 : w17.cell? ⟨gb558, 0, none⟩ = some (.int .i64 0) := (blk_cell BK558.out 0).trans rfl; have hcz18_1 : w17.cell? ⟨gb558, 1, none⟩ = some (.int .i64 0) := (blk_cell BK558.out 1).trans rfl; have hcz18_2 : w17.cell? ⟨gb558, 2, none⟩ = some (.string (⟨#[]⟩ : ByteArray)) := (blk_cell BK558.out 2).trans rfl; have hfz18_0 := blk_frozen BK558.out 0; have hfz18_1 := blk_frozen BK558.out 1; have hfz18_2 := blk_frozen BK558.out 2))
          have n0_ : Aside0 (Kd.R k44 44 (((w17.setCell ⟨gb558, 0, none⟩ (.int .i64 t553)).setCell ⟨gb558, 1, none⟩ (.int .i64 t554)).setCell ⟨gb558, 2, none⟩ (.string t555)) w.heap.size (fun _ => True) u2 x2_1) := ⟨by (with_reducible repeat (first | apply Kd.R_alloc | apply Kd.R_drewN | apply Kd.R_drew)); exact Kd.R_mono (Kd.R_far (p := ⟨gb558, 2, none⟩) (Kd.R_far (p := ⟨gb558, 1, none⟩) (Kd.R_far (p := ⟨gb558, 0, none⟩) (Kd.R_types HO_2.out BK558.out (by decide)) (fun _ hk => hk.2) (.int .i64 t553)) (fun _ hk => hk.2) (.int .i64 t554)) (fun _ hk => hk.2) (.string t555)) (fun _ hk => trivial)⟩
          have n1_ : Aside0 (Kd.R (Kd.int .i64) 3 (((w17.setCell ⟨gb558, 0, none⟩ (.int .i64 t553)).setCell ⟨gb558, 1, none⟩ (.int .i64 t554)).setCell ⟨gb558, 2, none⟩ (.string t555)) w.heap.size (fun _ => True) (.slice Ao14 y545.length co14) y545) := ⟨by (with_reducible repeat (first | apply Kd.R_alloc | apply Kd.R_drewN | apply Kd.R_drew)); exact Kd.R_mono (Kd.R_far (p := ⟨gb558, 2, none⟩) (Kd.R_far (p := ⟨gb558, 1, none⟩) (Kd.R_far (p := ⟨gb558, 0, none⟩) (Kd.R_types HO547.out BK558.out (by decide)) (fun _ hk => hk.2) (.int .i64 t553)) (fun _ hk => hk.2) (.int .i64 t554)) (fun _ hk => hk.2) (.string t555)) (fun _ hk => trivial)⟩
          have n2_ : Aside0 (Kd.R k101 101 (((w17.setCell ⟨gb558, 0, none⟩ (.int .i64 t553)).setCell ⟨gb558, 1, none⟩ (.int .i64 t554)).setCell ⟨gb558, 2, none⟩ (.string t555)) w.heap.size (fun _ => True) v551 t548) := ⟨by (with_reducible repeat (first | apply Kd.R_alloc | apply Kd.R_drewN | apply Kd.R_drew)); exact Kd.R_mono (Kd.R_far (p := ⟨gb558, 2, none⟩) (Kd.R_far (p := ⟨gb558, 1, none⟩) (Kd.R_far (p := ⟨gb558, 0, none⟩) (Kd.R_types HO552.out BK558.out (by decide)) (fun _ hk => hk.2) (.int .i64 t553)) (fun _ hk => hk.2) (.int .i64 t554)) (fun _ hk => hk.2) (.string t555)) (fun _ hk => trivial)⟩
          have n3_ : Aside0 ((((w17.setCell ⟨gb558, 0, none⟩ (.int .i64 t553)).setCell ⟨gb558, 1, none⟩ (.int .i64 t554)).setCell ⟨gb558, 2, none⟩ (.string t555)).heap[gb558]? = some (.cells #[.int .i64 t553, .int .i64 t554, .string t555] 37 (0, 0))) := ⟨by (with_reducible repeat (first | refine blk_drewN ?_ _ | refine blk_drew ?_ | refine blk_alloc ?_ _)); refine blk_put (cs := #[.int .i64 t553, .int .i64 t554, .string (⟨#[]⟩ : ByteArray)]) ?_ 2 _ rfl; (with_reducible repeat (first | refine blk_drewN ?_ _ | refine blk_drew ?_ | refine blk_alloc ?_ _)); refine blk_put (cs := #[.int .i64 t553, .int .i64 0, .string (⟨#[]⟩ : ByteArray)]) ?_ 1 _ rfl; (with_reducible repeat (first | refine blk_drewN ?_ _ | refine blk_drew ?_ | refine blk_alloc ?_ _)); refine blk_put (cs := #[.int .i64 0, .int .i64 0, .string (⟨#[]⟩ : ByteArray)]) ?_ 0 _ rfl; (with_reducible repeat (first | refine blk_drewN ?_ _ | refine blk_drew ?_ | refine blk_alloc ?_ _)); exact BK558.out⟩
          have n4_ : Aside0 (Below w.heap.size w (((w17.setCell ⟨gb558, 0, none⟩ (.int .i64 t553)).setCell ⟨gb558, 1, none⟩ (.int .i64 t554)).setCell ⟨gb558, 2, none⟩ (.string t555))) := ⟨bwA⟩
          (try clear HO_2)
          (try clear HO547)
          (try clear HO552)
          (try clear BK558)
          (try clear HB)
          generalize (((w17.setCell ⟨gb558, 0, none⟩ (.int .i64 t553)).setCell ⟨gb558, 1, none⟩ (.int .i64 t554)).setCell ⟨gb558, 2, none⟩ (.string t555)) = w19 at n0_ n1_ n2_ n3_ n4_ ⊢
          have HO_2 := n0_
          have HO547 := n1_
          have HO552 := n2_
          have BK558 := n3_
          have HB := n4_
          clear n0_ n1_ n2_ n3_ n4_
          have n0_ := Aside0.mk (Kd.R_drew HO_2.out)
          have n1_ := Aside0.mk (Kd.R_drew HO547.out)
          have n2_ := Aside0.mk (Kd.R_drew HO552.out)
          have n3_ := Aside0.mk (blk_drew BK558.out)
          have n4_ := Aside0.mk (below_drew1 HB.out)
          clear HO_2
          clear HO547
          clear HO552
          clear BK558
          clear HB
          have HO_2 := n0_
          have HO547 := n1_
          have HO552 := n2_
          have BK558 := n3_
          have HB := n4_
          clear n0_ n1_ n2_ n3_ n4_
          obtain ⟨Ao21, co21, eo21⟩ := Kd.R_slice HO552.out
          (first | subst eo21 | (injection eo21 with f1_ f2_ f3_; have f4_ := f1_.symm; have f5_ := f3_.symm; clear f1_ f2_ f3_; subst f4_; subst f5_))
          have p559 : 0 ≤ (0 : Int) := (by omega)
          have q559 : 0 < (t548.length : Int) := odA
          obtain ⟨ad559, e559, hx559_0, hx559_1, hx559_2⟩ := at_T101 (Kd.R_reads' HO552.out).2.2 0 p559 q559
          cases e559
          have qi559 : (0 < t548.length) = True := eq_true (by omega)
          (try rw [show ((0 : Int)).toNat = 0 from rfl] at hx559_0)
          (try rw [show 0 * 3 = 0 from rfl] at hx559_0)
          (try rw [Addr.add_zero'] at hx559_0)
          (try rw [show ((0 : Int)).toNat = 0 from rfl] at hx559_1)
          (try rw [show 0 * 3 = 0 from rfl] at hx559_1)
          (try rw [Addr.add_zero'] at hx559_1)
          (try rw [show ((0 : Int)).toNat = 0 from rfl] at hx559_2)
          (try rw [show 0 * 3 = 0 from rfl] at hx559_2)
          (try rw [Addr.add_zero'] at hx559_2)
          replace p559 := eq_true p559
          replace q559 := eq_true q559
          refine start_ (n := 12) (S := fun w' => w'.cell? ⟨gb558, 0, none⟩ = some (.int .i64 t553) ∧ w'.cell? ⟨gb558, 1, none⟩ = some (.int .i64 t554) ∧ w'.cell? ⟨gb558, 2, none⟩ = some (.string t555) ∧ w'.cell? ad559 = some (.int .i64 ((rd_T101 t548 0).f0)) ∧ w'.cell? ⟨ad559.block, ad559.off + 1, none⟩ = some (.int .i64 ((rd_T101 t548 0).f1)) ∧ w'.cell? ⟨ad559.block, ad559.off + 2, none⟩ = some (.string ((rd_T101 t548 0).f2))) (ds := [7, 8]) (mkB 12 0) (by kernel_rfl) rfl rfl ⟨(blk_cell BK558.out 0).trans rfl, (blk_cell BK558.out 1).trans rfl, (blk_cell BK558.out 2).trans rfl, hx559_0, hx559_1, hx559_2⟩ (fun hHeld => ?_); refine with_tabW schema_ReadAttrs.tab14 schema_ReadAttrs.bits14 (fun HT_ HW_ => ?_)
          generalize w19.drew = w20 at HO_2 HO547 HO552 BK558 HB hx559_0 hx559_1 hx559_2 hHeld ⊢
          refine pureA 0 (some 46) (mkB 12 1) ?_
          refine pureA 1 (some 47) (mkB 12 3) ?_
          refine pureA 2 (some 48) (mkB 12 7) ?_
          refine pureA 3 (some 49) (mkB 12 15) ?_
          refine pureA 9 (some 55) (mkB 12 527) ?_
          refine takeA 4 (some 50) (mkB 12 543) ?_ rfl (Or.inl ⟨by rfl, by rintro w' ⟨s0, s1, s2, s3, s4, s5⟩; go_simp; with_reducible rfl⟩)
          refine takeA 5 (some 51) (mkB 12 575) ?_ rfl (Or.inl ⟨by rfl, by rintro w' ⟨s0, s1, s2, s3, s4, s5⟩; go_simp; with_reducible rfl⟩)
          refine pureA 6 (some 52) (mkB 12 639) ?_
          refine last_ (i := 7) (N := some 53) #[true, true, true, true, true, true, true, true, false, true, false, false] rfl rfl (one_of HT_.out (by kernel_rfl)) (by decide) (fun K hK => ?_)
          refine value_ (w1 := ?_) (v := ?_) (by rfl) rfl ?_ ?_
          rotate_left 2
          ·go_simp
           constructor
           ·rfl
           ·rfl
          refine hK.out _ _ ?_
          clear hK K
          refine normA ?_
          refine last_ (i := 8) (N := some 54) #[true, true, true, true, true, true, true, true, true, true, false, false] rfl rfl (one_of HT_.out (by kernel_rfl)) (by decide) (fun K hK => ?_)
          refine Kd.R_append_step k44 (w0 := w) w.heap.size (by rfl) (.tmp 46) (.tmp 53) 34 44 (.agg #[(.string ⟨#[]⟩), (.int .i64 0), (.int .i64 0), (.string ⟨#[]⟩)]) 48 rfl Tryz.underlying34 info44 rfl (by decide) (by omega) u2 x2_1 (⟨(rd_T101 t548 0).f2, (⟨t553, t554, t555⟩ : S37)⟩ : S44) [.string ((rd_T101 t548 0).f2), .int .i64 t553, .int .i64 t554, .string t555] (fun _ => True) (fun _ => False) rfl rfl ?aP (fun _ hk => hk.elim) ?aF ?aO ?aB ?aS ?aL ?_
          (case aP => exact k44_mkM _ _ _ (⟨(rd_T101 t548 0).f2, (⟨t553, t554, t555⟩ : S37)⟩ : S44))
          (case aB => exact (bwA))
          (case aF => exact (fun _ _ => trivial))
          (case aO => exact (by (with_reducible repeat (first | apply Kd.R_alloc | apply Kd.R_drewN | apply Kd.R_drew)); exact HO_2.out))
          (case aS => exact (below_size (bwA)))
          (case aL => have := LMc11.out; omega)
          intro v561 w22 ho hb hg hat
          rw [← Ny560.out] at ho
          have n0_ := Aside0.mk (Kd.R_over' (by (with_reducible repeat (first | apply Kd.R_alloc | apply Kd.R_drewN | apply Kd.R_drew)); exact HO547.out) (Kd.R_typed (by (with_reducible repeat (first | apply Kd.R_alloc | apply Kd.R_drewN | apply Kd.R_drew)); exact HO_2.out)) (by decide) hg)
          have n1_ := Aside0.mk (Kd.R_over' (by (with_reducible repeat (first | apply Kd.R_alloc | apply Kd.R_drewN | apply Kd.R_drew)); exact HO552.out) (Kd.R_typed (by (with_reducible repeat (first | apply Kd.R_alloc | apply Kd.R_drewN | apply Kd.R_drew)); exact HO_2.out)) (by decide) hg)
          have n2_ := Aside0.mk (blk_grown (g := gb558) (o := .cells #[.int .i64 t553, .int .i64 t554, .string t555] 37 (0, 0)) blkA hg (Kd.R_ne HO_2.out BK558.out (by decide)))
          have n3_ := Aside0.mk (hb)
          have n4_ := Aside0.mk (ho)
          clear HO547
          clear HO552
          clear BK558
          clear HB
          clear HO_2
          have HO547 := n0_
          have HO552 := n1_
          have BK558 := n2_
          have HB := n3_
          have HO562 := n4_
          clear n0_ n1_ n2_ n3_ n4_
          clear ho hb hg hat
          refine hK.out _ _ ?_
          clear hK K
          refine normA ?_
          refine pureA 10 (some 2) (mkB 12 2047) ?_
          refine pureA 11 (some 3) (mkB 12 4095) ?_
          refine done_ (done_of HT_.out (by kernel_rfl)) ?_
          try go_wp2
          go_roundg k1
          case measure => have := HK1.out; omega
          case rel => exact ⟨(y560), (t556), (wrap64 (x25_1 + 1)), (endS), (endS), H', ⟨by have := HK1.out; omega⟩, ⟨by (with_reducible repeat (first | apply Kd.R_alloc | apply Kd.R_drewN | apply Kd.R_drew)); exact HO562.out⟩, ⟨bwA⟩⟩
         ·rw [if_neg c11] at H
          exact absurd H (by simp)
        ·rw [if_neg c10] at H
         exact absurd H (by simp)
       ·rw [if_neg c9] at H
        have c9b0 : (t557 == 0) = false := beq_eq_false_iff_ne.mpr c9
        have c9b1 : (t557 != 0) = true := bne_iff_ne.mpr c9
        simp only [Option.some.injEq, Prod.mk.injEq] at H
        obtain ⟨rfl, rfl, rfl⟩ := H
        go_wp2_with (first | ((with_reducible refine gate_dst (N := 29) rfl ?_); refine Kd.R_lit (Kd.int .i64) _ 3 ?hg (N := 29) ?hd (xs := ([4] : List Int)) (inner := [.int .i64 4]) (ok := fun _ => True) (okp := fun _ => True) ?hr ?hp (fun _ hk => hk) trivial (Below.refl _ _) (Nat.le_refl _) (by simp) ?_; (case hd => rfl); (case hg => rfl); (case hr => first | (go_simp; done) | (go_simp; rfl)); (case hp => exact (Reps.one (show Kd.M (Kd.int .i64) _ _ _ 4 [.int .i64 4] from rfl) (Reps.none _ _))); intro v546 w23 ho24 hb hg_ hnew_; clear hg_ hnew_; (first | rw [← Ny545.out] at ho24 | (simp only [Int.reduceToNat] at ho24; rw [← Ny545.out] at ho24)); have n0_ := Aside0.mk (Kd.R_below (by (with_reducible repeat (first | apply Kd.R_alloc | apply Kd.R_drewN | apply Kd.R_drew)); exact HO_2.out) hb); have n1_ := Aside0.mk (Kd.R_lower ho24 (below_size (bwA))); have n2_ := Aside0.mk (below_step (bwA) hb); clear HO_2; clear HB; have HO_2 := n0_; have HO547 := n1_; have HB := n2_; clear n0_ n1_ n2_; clear hb ho24; obtain ⟨Ao25, co25, eo25⟩ := Kd.R_slice HO547.out; subst eo25) | ((with_reducible refine gate_callee (f := 63) rfl ?_); refine goesA (some 30) Tryz.func63 #[.string x3_1, .slice Ao25 y545.length co25] ?_; (with_reducible refine (quic_Take.calls k1 x3_1 _ _ y545 t548 t549 t550 _ ?side1 ?side2 A6.out).mono ?_); (case side1 => repeat (first | exact (Kd.R_reads' HO547.out).2.2 | (with_reducible refine Kd.C_alloc ?_ _) | (with_reducible refine Kd.C_drewN ?_ _) | (with_reducible refine Kd.C_drew ?_))); (case side2 => exact (Kd.R_reads' HO547.out).2.1); rintro e w26 ⟨v551, rfl, ho0, hb⟩; refine ⟨_, rfl, ?_⟩; have n0_ := Aside0.mk (Kd.R_below (by (with_reducible repeat (first | apply Kd.R_alloc | apply Kd.R_drewN | apply Kd.R_drew)); exact HO_2.out) hb); have n1_ := Aside0.mk (Kd.R_below (by (with_reducible repeat (first | apply Kd.R_alloc | apply Kd.R_drewN | apply Kd.R_drew)); exact HO547.out) hb); have n2_ := Aside0.mk (Kd.R_lower ho0 (below_size (bwA))); have n3_ := Aside0.mk (below_step (bwA) hb); clear HO_2; clear HO547; clear HB; have HO_2 := n0_; have HO547 := n1_; have HO552 := n2_; have HB := n3_; clear n0_ n1_ n2_ n3_; (try clear hb); (try clear hb2); (try clear hk); (try clear hi); (try clear ho0)) | ((with_reducible refine gate_callee (f := 70) rfl ?_); refine goesA (some 39) Tryz.func70 #[.string t549] ?_; (with_reducible refine (value_Read.calls k1 t549 t553 t554 t555 t556 t557 _ ?side1 A8.out).mono ?_); (case side1 => exact Tabs.below HT.out (bwA)); rintro e w27 ⟨rfl, hb⟩; refine ⟨_, rfl, ?_⟩; have n0_ := Aside0.mk (Kd.R_below (by (with_reducible repeat (first | apply Kd.R_alloc | apply Kd.R_drewN | apply Kd.R_drew)); exact HO_2.out) hb); have n1_ := Aside0.mk (Kd.R_below (by (with_reducible repeat (first | apply Kd.R_alloc | apply Kd.R_drewN | apply Kd.R_drew)); exact HO547.out) hb); have n2_ := Aside0.mk (Kd.R_below (by (with_reducible repeat (first | apply Kd.R_alloc | apply Kd.R_drewN | apply Kd.R_drew)); exact HO552.out) hb); have n3_ := Aside0.mk (below_step (bwA) hb); clear HO_2; clear HO547; clear HO552; clear HB; have HO_2 := n0_; have HO547 := n1_; have HO552 := n2_; have HB := n3_; clear n0_ n1_ n2_ n3_; (try clear hb); (try clear hb2); (try clear hk); (try clear hi)) | ((with_reducible refine gate_dst (N := 9) rfl ?_); refine box_event ?hg (N := 9) ?hd (cs := #[.int .i64 0, .int .i64 0, .string (⟨#[]⟩ : ByteArray)]) (t := 37) ?hr ?_; (case hd => rfl); (case hg => rfl); (case hr => first | (go_simp; done) | (go_simp; rfl)); intro gb558 hg w28 hbox hb; have n0_ := Aside0.mk (Kd.R_below (by (with_reducible repeat (first | apply Kd.R_alloc | apply Kd.R_drewN | apply Kd.R_drew)); exact HO_2.out) hb); have n1_ := Aside0.mk (Kd.R_below (by (with_reducible repeat (first | apply Kd.R_alloc | apply Kd.R_drewN | apply Kd.R_drew)); exact HO547.out) hb); have n2_ := Aside0.mk (Kd.R_below (by (with_reducible repeat (first | apply Kd.R_alloc | apply Kd.R_drewN | apply Kd.R_drew)); exact HO552.out) hb); have n3_ := Aside0.mk (below_step (bwA) hb); have n4_ := Aside0.mk (hbox); have n5_ := Aside0.mk ((by rw [hg]; exact (below_size (bwA)) : w.heap.size ≤ gb558)); have n6_ := Aside0.mk ((by rw [hg]; exact (below_size (bwA)) : w.heap.size ≤ gb558)); clear HO_2; clear HO547; clear HO552; clear HB; have HO_2 := n0_; have HO547 := n1_; have HO552 := n2_; have HB := n3_; have BK558 := n4_; have GW558 := n5_; have GE558 := n6_; clear n0_ n1_ n2_ n3_ n4_ n5_ n6_; clear hb hbox hg; have hcz29_0 : w28.cell? ⟨gb558, 0, none⟩ = some (.int .i64 0) := (blk_cell BK558.out 0).trans rfl; have hcz29_1 : w28.cell? ⟨gb558, 1, none⟩ = some (.int .i64 0) := (blk_cell BK558.out 1).trans rfl; have hcz29_2 : w28.cell? ⟨gb558, 2, none⟩ = some (.string (⟨#[]⟩ : ByteArray)) := (blk_cell BK558.out 2).trans rfl; have hfz29_0 := blk_frozen BK558.out 0; have hfz29_1 := blk_frozen BK558.out 1; have hfz29_2 := blk_frozen BK558.out 2))
        go_ret3
        exact ⟨_, endA, by first | exact Kd.R_nil _ _ _ _ _ | exact Kd.N_nil _ _ _ _ _ | exact Kd.V_nil _ _ _ _ _ | exact Kd.Q_nil _ _ _ _ _ | exact Kd.S_nil _ _ _ _ _, bwA⟩
      ·rw [if_neg c7] at H
       have c7b0 : (t550 == 0) = false := beq_eq_false_iff_ne.mpr c7
       have c7b1 : (t550 != 0) = true := bne_iff_ne.mpr c7
       simp only [Option.some.injEq, Prod.mk.injEq] at H
       obtain ⟨rfl, rfl, rfl⟩ := H
       go_wp2_with (first | ((with_reducible refine gate_dst (N := 29) rfl ?_); refine Kd.R_lit (Kd.int .i64) _ 3 ?hg (N := 29) ?hd (xs := ([4] : List Int)) (inner := [.int .i64 4]) (ok := fun _ => True) (okp := fun _ => True) ?hr ?hp (fun _ hk => hk) trivial (Below.refl _ _) (Nat.le_refl _) (by simp) ?_; (case hd => rfl); (case hg => rfl); (case hr => first | (go_simp; done) | (go_simp; rfl)); (case hp => exact (Reps.one (show Kd.M (Kd.int .i64) _ _ _ 4 [.int .i64 4] from rfl) (Reps.none _ _))); intro v546 w30 ho31 hb hg_ hnew_; clear hg_ hnew_; (first | rw [← Ny545.out] at ho31 | (simp only [Int.reduceToNat] at ho31; rw [← Ny545.out] at ho31)); have n0_ := Aside0.mk (Kd.R_below (by (with_reducible repeat (first | apply Kd.R_alloc | apply Kd.R_drewN | apply Kd.R_drew)); exact HO_2.out) hb); have n1_ := Aside0.mk (Kd.R_lower ho31 (below_size (bwA))); have n2_ := Aside0.mk (below_step (bwA) hb); clear HO_2; clear HB; have HO_2 := n0_; have HO547 := n1_; have HB := n2_; clear n0_ n1_ n2_; clear hb ho31; obtain ⟨Ao32, co32, eo32⟩ := Kd.R_slice HO547.out; subst eo32) | ((with_reducible refine gate_callee (f := 63) rfl ?_); refine goesA (some 30) Tryz.func63 #[.string x3_1, .slice Ao32 y545.length co32] ?_; (with_reducible refine (quic_Take.calls k1 x3_1 _ _ y545 t548 t549 t550 _ ?side1 ?side2 A6.out).mono ?_); (case side1 => repeat (first | exact (Kd.R_reads' HO547.out).2.2 | (with_reducible refine Kd.C_alloc ?_ _) | (with_reducible refine Kd.C_drewN ?_ _) | (with_reducible refine Kd.C_drew ?_))); (case side2 => exact (Kd.R_reads' HO547.out).2.1); rintro e w33 ⟨v551, rfl, ho0, hb⟩; refine ⟨_, rfl, ?_⟩; have n0_ := Aside0.mk (Kd.R_below (by (with_reducible repeat (first | apply Kd.R_alloc | apply Kd.R_drewN | apply Kd.R_drew)); exact HO_2.out) hb); have n1_ := Aside0.mk (Kd.R_below (by (with_reducible repeat (first | apply Kd.R_alloc | apply Kd.R_drewN | apply Kd.R_drew)); exact HO547.out) hb); have n2_ := Aside0.mk (Kd.R_lower ho0 (below_size (bwA))); have n3_ := Aside0.mk (below_step (bwA) hb); clear HO_2; clear HO547; clear HB; have HO_2 := n0_; have HO547 := n1_; have HO552 := n2_; have HB := n3_; clear n0_ n1_ n2_ n3_; (try clear hb); (try clear hb2); (try clear hk); (try clear hi); (try clear ho0)))
       go_ret3
       exact ⟨_, endA, by first | exact Kd.R_nil _ _ _ _ _ | exact Kd.N_nil _ _ _ _ _ | exact Kd.V_nil _ _ _ _ _ | exact Kd.Q_nil _ _ _ _ _ | exact Kd.S_nil _ _ _ _ _, bwA⟩
     ·rw [if_neg c5] at H
      have c5b0 : decide (x25_1 < t541) = false := decide_eq_false c5
      clear c5
      replace H := Option.bind_eq_some_iff.mp H
      obtain ⟨t544, A340, H⟩ := H
      replace H : (if t544 = true then (some (x2_1, x3_1, 0)) else (some (([] : List (S44)), (⟨#[]⟩ : ByteArray), 3))) = some (r1, r2, r3) := H
      have A34 := Aside0.mk A340
      clear A340
      by_cases c35 : t544 = true
      ·subst c35
       have H1 : (some (x2_1, x3_1, 0)) = some (r1, r2, r3) := by rw [if_pos rfl] at H; exact H
       clear H
       have H := H1
       clear H1
       simp only [Option.some.injEq, Prod.mk.injEq] at H
       obtain ⟨rfl, rfl, rfl⟩ := H
       obtain ⟨Ao36, co36, eo36⟩ := Kd.R_slice HO_2.out
       subst eo36
       go_wp2_with (first | ((with_reducible refine gate_callee (f := 22) rfl ?_); refine goesA (some 58) Tryz.func22 #[.slice Ao36 x2_1.length co36] ?_; (with_reducible refine (schema_Attrs.calls k1 _ _ x2_1 true _ ?side1 ?side2 ?side3 A34.out).mono ?_); (case side1 => repeat (first | exact (Kd.R_reads' HO_2.out).2.2 | (with_reducible refine Kd.C_alloc ?_ _) | (with_reducible refine Kd.C_drewN ?_ _) | (with_reducible refine Kd.C_drew ?_))); (case side2 => exact (Kd.R_reads' HO_2.out).2.1); (case side3 => exact Tabs.below HT.out (bwA)); rintro e w37 ⟨rfl, hb⟩; refine ⟨_, rfl, ?_⟩; have n0_ := Aside0.mk (Kd.R_below (by (with_reducible repeat (first | apply Kd.R_alloc | apply Kd.R_drewN | apply Kd.R_drew)); exact HO_2.out) hb); have n1_ := Aside0.mk (below_step (bwA) hb); clear HO_2; clear HB; have HO_2 := n0_; have HB := n1_; clear n0_ n1_; (try clear hb); (try clear hb2); (try clear hk); (try clear hi)))
       go_ret3
       exact ⟨_, endA, by (with_reducible repeat (first | apply Kd.R_alloc | apply Kd.R_drewN | apply Kd.R_drew)); exact HO_2.out, bwA⟩
      ·replace c35 := Bool.eq_false_iff.mpr c35
       subst c35
       have H1 : (some (([] : List (S44)), (⟨#[]⟩ : ByteArray), 3)) = some (r1, r2, r3) := by rw [if_neg (show ¬ (false = true) by decide)] at H; exact H
       clear H
       have H := H1
       clear H1
       simp only [Option.some.injEq, Prod.mk.injEq] at H
       obtain ⟨rfl, rfl, rfl⟩ := H
       obtain ⟨Ao38, co38, eo38⟩ := Kd.R_slice HO_2.out
       subst eo38
       go_wp2_with (first | ((with_reducible refine gate_callee (f := 22) rfl ?_); refine goesA (some 58) Tryz.func22 #[.slice Ao38 x2_1.length co38] ?_; (with_reducible refine (schema_Attrs.calls k1 _ _ x2_1 false _ ?side1 ?side2 ?side3 A34.out).mono ?_); (case side1 => repeat (first | exact (Kd.R_reads' HO_2.out).2.2 | (with_reducible refine Kd.C_alloc ?_ _) | (with_reducible refine Kd.C_drewN ?_ _) | (with_reducible refine Kd.C_drew ?_))); (case side2 => exact (Kd.R_reads' HO_2.out).2.1); (case side3 => exact Tabs.below HT.out (bwA)); rintro e w39 ⟨rfl, hb⟩; refine ⟨_, rfl, ?_⟩; have n0_ := Aside0.mk (Kd.R_below (by (with_reducible repeat (first | apply Kd.R_alloc | apply Kd.R_drewN | apply Kd.R_drew)); exact HO_2.out) hb); have n1_ := Aside0.mk (below_step (bwA) hb); clear HO_2; clear HB; have HO_2 := n0_; have HB := n1_; clear n0_ n1_; (try clear hb); (try clear hb2); (try clear hk); (try clear hi)))
       go_ret3
       exact ⟨_, endA, by first | exact Kd.R_nil _ _ _ _ _ | exact Kd.N_nil _ _ _ _ _ | exact Kd.V_nil _ _ _ _ _ | exact Kd.Q_nil _ _ _ _ _ | exact Kd.S_nil _ _ _ _ _, bwA⟩
 ·rw [if_neg c3] at H
  have c3b0 : (t543 == 0) = false := beq_eq_false_iff_ne.mpr c3
  have c3b1 : (t543 != 0) = true := bne_iff_ne.mpr c3
  simp only [Option.some.injEq, Prod.mk.injEq] at H
  obtain ⟨rfl, rfl, rfl⟩ := H
  go_enter Tryz.func31, Tryz.ntmps31
  go_wp2_with (first | ((with_reducible refine gate_callee (f := 62) rfl ?_); refine goesA (some 13) Tryz.func62 #[.string a0] ?_; (with_reducible refine (quic_Get.calls k a0 t541 t542 t543 _ A2.out).mono ?_); rintro e w' ⟨rfl, ⟨nd, rfl⟩⟩; refine ⟨_, rfl, ?_⟩))
  go_ret3
  exact ⟨_, endA, by first | exact Kd.R_nil _ _ _ _ _ | exact Kd.N_nil _ _ _ _ _ | exact Kd.V_nil _ _ _ _ _ | exact Kd.Q_nil _ _ _ _ _ | exact Kd.S_nil _ _ _ _ _, bwA⟩

end Go.Proofs.YtnbbajiabbmdmaaGreatDoor.A
