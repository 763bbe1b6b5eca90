-- By drv.py, the session's own driver round the kit's print: the machine's side of the laws, function by function. Not trusted: Lean checks it.
import Derived.Test.YtnbbajiabbmdmaaGreatDoorAx0
import Derived.Test.YtnbbajiabbmdmaaGreatDoorAx7
import Derived.Test.YtnbbajiabbmdmaaGreatDoorAx16
import Derived.Test.YtnbbajiabbmdmaaGreatDoorAx17
namespace Go.Proofs.YtnbbajiabbmdmaaGreatDoor.A
open Go.RowKit Go.Proofs.YtnbbajiabbmdmaaGreatDoorW.PrintWords Go.Proofs.YtnbbajiabbmdmaaGreatDoorW.PrintLast Go.Proofs.YtnbbajiabbmdmaaGreatDoorW.PrintMore
attribute [local go_sem] max2_int min2_int max_two min_two max_three min_three max_four min_four   -- for this text's walks alone
set_option linter.unusedVariables false
set_option linter.unusedSimpArgs false

/-! ### schema_Read: function 28 -/
def schema_Read.l0 : Nat → List (S62) → ByteArray → Int → Int → Option ((List (S62)) × ByteArray × Int)
 | 0, _, _, _, _ => none
 | k + 1, x2, x3, x22, x23 => if x23 < x22 then ((quic_Take.f k x3 (([4, 1, 3] : List Int))).bind fun bt457 => (if bt457.2.2 = 0 then (if 0 < (bt457.1.length : Int) then (if 1 < (bt457.1.length : Int) then (if 2 < (bt457.1.length : Int) then (if x2.length < 4398046511104 then (schema_Read.l0 k (x2 ++ [(⟨(rd_T101 bt457.1 0).f2, (rd_T101 bt457.1 1).f1, (((rd_T101 bt457.1 2).f1) == 1)⟩ : S62)]) bt457.2.1 x22 (wrap64 (x23 + 1))) else (none)) else (none)) else (none)) else (none)) else (some (([] : List (S62)), (⟨#[]⟩ : ByteArray), bt457.2.2)))) else ((schema_Check.f k x2).bind fun t468 => (if t468 = true then (some (x2, x3, 0)) else (some (([] : List (S62)), (⟨#[]⟩ : ByteArray), 3))))
def schema_Read.f (k : Nat) (a0 : ByteArray) : Option ((List (S62)) × ByteArray × Int) := (quic_Get.f k a0).bind fun bt451 => (if bt451.2.2 = 0 then (if bt451.1 > 24 then (some (([] : List (S62)), (⟨#[]⟩ : ByteArray), 2)) else (schema_Read.l0 k ([] : List (S62)) bt451.2.1 bt451.1 0)) else (some (([] : List (S62)), (⟨#[]⟩ : ByteArray), bt451.2.2)))
theorem schema_Read.mono_l : ∀ k, (∀ y0 y1 y2 y3, LeO (schema_Read.l0 k y0 y1 y2 y3) (schema_Read.l0 (k + 1) y0 y1 y2 y3))
 | 0 => fun _ _ _ _ r h => by simp [schema_Read.l0] at h
 | k + 1 => by
  have ih0 := schema_Read.mono_l k
  ·intro y0 y1 y2 y3
   unfold schema_Read.l0
   repeat' first
   | (with_reducible exact ih0 _ _ _ _)
   | (with_reducible exact quic_Get.mono _ _)
   | (with_reducible exact quic_Take.mono _ _ _)
   | (with_reducible exact schema_Check.mono _ _)
   | (with_reducible exact LeO.refl _)
   | (with_reducible exact LeO.none _)
   | (with_reducible refine LeO.ite ?_ ?_)
   | (with_reducible refine LeO.bind ?_ (fun _ => ?_))
   | exact ih0 _ _ _ _
   | exact quic_Get.mono _ _
   | exact quic_Take.mono _ _ _
   | exact schema_Check.mono _ _
   | exact LeO.none _
   | refine LeO.ite ?_ ?_
   | refine LeO.bind ?_ (fun _ => ?_)
theorem schema_Read.mono : ∀ a0 k, LeO (schema_Read.f k a0) (schema_Read.f (k + 1) a0) := by
 intro a0 k
 have ih0 := schema_Read.mono_l k
 unfold schema_Read.f
 repeat' first
   | (with_reducible exact ih0 _ _ _ _)
   | (with_reducible exact quic_Get.mono _ _)
   | (with_reducible exact quic_Take.mono _ _ _)
   | (with_reducible exact schema_Check.mono _ _)
   | (with_reducible exact LeO.refl _)
   | (with_reducible exact LeO.none _)
   | (with_reducible refine LeO.ite ?_ ?_)
   | (with_reducible refine LeO.bind ?_ (fun _ => ?_))
   | exact ih0 _ _ _ _
   | exact quic_Get.mono _ _
   | exact quic_Take.mono _ _ _
   | exact schema_Check.mono _ _
   | exact LeO.none _
   | refine LeO.ite ?_ ?_
   | refine LeO.bind ?_ (fun _ => ?_)
def schema_Read.T11 : Bool × List (List Nat × List Nat) := (true, [([], []), ([], []), ([1], [1]), ([2], [2]), ([3], [3]), ([], []), ([5], [5]), ([6], [6]), ([7], [7]), ([], []), ([9], [9]), ([10], [10]), ([11], [11]), ([12], [12]), ([4, 8, 13], [4, 8, 13]), ([14], [14]), ([0, 15], [0, 15]), ([], []), ([16, 16, 0, 1, 2, 3, 4, 5, 6, 7, 8, 9, 10, 11, 12, 13, 14, 15, 16], [0, 16]), ([17, 18, 0, 1, 2, 3, 4, 5, 6, 7, 8, 9, 10, 11, 12, 13, 14, 15, 16, 17, 18], [17])])
def schema_Read.B11 : List Nat := [0, 0, 2, 6, 14, 0, 32, 96, 224, 0, 512, 1536, 3584, 7680, 16382, 32766, 65535, 0, 131071, 524287]
theorem schema_Read.tab11 : rtab .any (opsOf Tryz.f28 11) = schema_Read.T11 := by kernel_rfl
theorem schema_Read.bits11 : waitsOk schema_Read.T11.2 schema_Read.B11 = true := by kernel_rfl
set_option maxHeartbeats 8000000 in
set_option maxRecDepth 100000 in
theorem schema_Read.calls (k : Nat) (a0 : ByteArray) (r1 : List (S62)) (r2 : ByteArray) (r3 : Int) (w : World) (hT : Tabs w) (h : schema_Read.f k a0 = some (r1, r2, r3)) :
  Calls Tryz.prog 28 #[.string a0] w fun e w' => ∃ v0_ : Value, e = .returned (.tuple #[v0_, .string r2, .int .i64 r3]) ∧ Kd.R k62 62 w' w.heap.size (fun _ => True) v0_ r1 ∧ Below w.heap.size w w' := by
 have hu62 := Tryz.underlying62
 have HB := Aside0.mk (Below.refl w.heap.size w)
 have H : ((quic_Get.f k a0).bind fun bt451 => (if bt451.2.2 = 0 then (if bt451.1 > 24 then (some (([] : List (S62)), (⟨#[]⟩ : ByteArray), 2)) else (schema_Read.l0 k ([] : List (S62)) bt451.2.1 bt451.1 0)) else (some (([] : List (S62)), (⟨#[]⟩ : ByteArray), bt451.2.2)))) = some (r1, r2, r3) := h
 clear h
 have HT := Aside0.mk hT
 clear hT
 replace H := Option.bind_eq_some_iff.mp H
 obtain ⟨⟨t451, t452, t453⟩, A20, H⟩ := H
 replace H : (if t453 = 0 then (if t451 > 24 then (some (([] : List (S62)), (⟨#[]⟩ : ByteArray), 2)) else (schema_Read.l0 k ([] : List (S62)) t452 t451 0)) else (some (([] : List (S62)), (⟨#[]⟩ : ByteArray), t453))) = some (r1, r2, r3) := H
 have A2 := Aside0.mk A20
 clear A20
 by_cases c3 : t453 = 0
 ·rw [if_pos c3] at H
  have c3b0 : (t453 == 0) = true := beq_iff_eq.mpr c3
  have c3b1 : (t453 != 0) = false := bne_eq_false_iff_eq.mpr c3
  clear c3
  by_cases c4 : t451 > 24
  ·rw [if_pos c4] at H
   have c4b0 : decide (24 < t451) = true := decide_eq_true c4
   clear c4
   simp only [Option.some.injEq, Prod.mk.injEq] at H
   obtain ⟨rfl, rfl, rfl⟩ := H
   go_enter Tryz.func28, Tryz.ntmps28
   go_wp2_with (first | ((with_reducible refine gate_callee (f := 62) rfl ?_); refine goesA (some 11) Tryz.func62 #[.string a0] ?_; (with_reducible refine (quic_Get.calls k a0 t451 t452 t453 _ A2.out).mono ?_); rintro e w' ⟨rfl, ⟨nd, rfl⟩⟩; refine ⟨_, rfl, ?_⟩))
   go_ret3
   exact ⟨_, endA, by first | exact Kd.R_nil _ _ _ _ _ | exact Kd.N_nil _ _ _ _ _ | exact Kd.V_nil _ _ _ _ _ | exact Kd.Q_nil _ _ _ _ _ | exact Kd.S_nil _ _ _ _ _, bwA⟩
  ·rw [if_neg c4] at H
   have c4b0 : decide (24 < t451) = false := decide_eq_false c4
   clear c4
   have H' := Aside0.mk H
   clear H
   go_enter Tryz.func28, Tryz.ntmps28
   go_wp2_with (first | ((with_reducible refine gate_callee (f := 62) rfl ?_); refine goesA (some 11) Tryz.func62 #[.string a0] ?_; (with_reducible refine (quic_Get.calls k a0 t451 t452 t453 _ A2.out).mono ?_); rintro e w' ⟨rfl, ⟨nd, rfl⟩⟩; refine ⟨_, rfl, ?_⟩))
   go_loopg [2, 3, 23] k (fun kq v2 v3 v23 w' => ∃ (x2_1 : List (S62)) (x3_1 : ByteArray) (x23_1 : Int), v3 = .string x3_1 ∧ v23 = .int .i64 x23_1 ∧ Aside0 (schema_Read.l0 kq x2_1 x3_1 t451 x23_1 = some (r1, r2, r3)) ∧ Aside0 (kq ≤ k) ∧ Aside0 (Kd.R k62 62 w' w.heap.size (fun _ => True) v2 x2_1) ∧ Aside0 (Below w.heap.size w w'))
   case atStart => exact ⟨(([] : List (S62))), (t452), (0), (endS), (endS), H', ⟨Nat.le_refl _⟩, ⟨by first | exact Kd.R_nil _ _ _ _ _ | exact Kd.N_nil _ _ _ _ _ | exact Kd.V_nil _ _ _ _ _ | exact Kd.Q_nil _ _ _ _ _ | exact Kd.S_nil _ _ _ _ _⟩, ⟨bwA⟩⟩
   case round =>
    clear H'
    try clear c2
    try clear p2
    try clear c3
    try clear c3b0
    try clear c3b1
    try clear c4
    try clear c4b0
    obtain ⟨x2_1, x3_1, x23_1, rfl, rfl, HA, HK1, HO_2, HB⟩ := hrel
    cases gk with
    | zero => exact absurd HA.out (by simp [schema_Read.l0])
    | succ k1 =>
     have H := HA.out
     clear HA
     simp only [schema_Read.l0] at H
     by_cases c5 : x23_1 < t451
     ·rw [if_pos c5] at H
      have c5b0 : decide (x23_1 < t451) = true := decide_eq_true c5
      clear c5
      obtain ⟨y454, hy454⟩ : ∃ y_ : List Int, y_ = (([4, 1, 3] : List Int)) := ⟨_, rfl⟩
      replace H : ((quic_Take.f k1 x3_1 y454).bind fun bt457 => (if bt457.2.2 = 0 then (if 0 < (bt457.1.length : Int) then (if 1 < (bt457.1.length : Int) then (if 2 < (bt457.1.length : Int) then (if x2_1.length < 4398046511104 then (schema_Read.l0 k1 (x2_1 ++ [(⟨(rd_T101 bt457.1 0).f2, (rd_T101 bt457.1 1).f1, (((rd_T101 bt457.1 2).f1) == 1)⟩ : S62)]) bt457.2.1 t451 (wrap64 (x23_1 + 1))) else (none)) else (none)) else (none)) else (none)) else (some (([] : List (S62)), (⟨#[]⟩ : ByteArray), bt457.2.2)))) = some (r1, r2, r3) := by first | (rw [hy454]; with_reducible exact H) | (have H2_ := (Option.bind_some _ _).symm.trans H; rw [hy454]; with_reducible exact H2_) | (have H2_ := (Option.bind_some _ _).symm.trans H; with_reducible exact H2_) | with_reducible exact H | (rw [hy454]; exact H) | exact H
      have Ny454 := Aside0.mk hy454
      clear hy454
      replace H := Option.bind_eq_some_iff.mp H
      obtain ⟨⟨t457, t458, t459⟩, A60, H⟩ := H
      replace H : (if t459 = 0 then (if 0 < (t457.length : Int) then (if 1 < (t457.length : Int) then (if 2 < (t457.length : Int) then (if x2_1.length < 4398046511104 then (schema_Read.l0 k1 (x2_1 ++ [(⟨(rd_T101 t457 0).f2, (rd_T101 t457 1).f1, (((rd_T101 t457 2).f1) == 1)⟩ : S62)]) t458 t451 (wrap64 (x23_1 + 1))) else (none)) else (none)) else (none)) else (none)) else (some (([] : List (S62)), (⟨#[]⟩ : ByteArray), t459))) = some (r1, r2, r3) := H
      have A6 := Aside0.mk A60
      clear A60
      by_cases c7 : t459 = 0
      ·rw [if_pos c7] at H
       have c7b0 : (t459 == 0) = true := beq_iff_eq.mpr c7
       have c7b1 : (t459 != 0) = false := bne_eq_false_iff_eq.mpr c7
       clear c7
       by_cases c8 : 0 < (t457.length : Int)
       ·rw [if_pos c8] at H
        have c8b0 : decide (0 < (t457.length : Int)) = true := decide_eq_true c8
        have c8b1 : decide (0 < t457.length) = true := decide_eq_true (by omega)
        clear c8
        by_cases c9 : 1 < (t457.length : Int)
        ·rw [if_pos c9] at H
         have c9b0 : decide (1 < (t457.length : Int)) = true := decide_eq_true c9
         have c9b1 : decide (1 < t457.length) = true := decide_eq_true (by omega)
         clear c9
         by_cases c10 : 2 < (t457.length : Int)
         ·rw [if_pos c10] at H
          have c10b0 : decide (2 < (t457.length : Int)) = true := decide_eq_true c10
          have c10b1 : decide (2 < t457.length) = true := decide_eq_true (by omega)
          clear c10
          by_cases c11 : x2_1.length < 4398046511104
          ·rw [if_pos c11] at H
           have LMc11 := Aside0.mk c11
           clear c11
           obtain ⟨y465, hy465⟩ : ∃ y_ : List (S62), y_ = (x2_1 ++ [(⟨(rd_T101 t457 0).f2, (rd_T101 t457 1).f1, (((rd_T101 t457 2).f1) == 1)⟩ : S62)]) := ⟨_, rfl⟩
           replace H : (schema_Read.l0 k1 y465 t458 t451 (wrap64 (x23_1 + 1))) = some (r1, r2, r3) := by first | (rw [hy465]; with_reducible exact H) | (have H2_ := (Option.bind_some _ _).symm.trans H; rw [hy465]; with_reducible exact H2_) | (have H2_ := (Option.bind_some _ _).symm.trans H; with_reducible exact H2_) | with_reducible exact H | (rw [hy465]; exact H) | exact H
           have Ny465 := Aside0.mk hy465
           clear hy465
           have H' := Aside0.mk H
           clear H
           try go_wp2_with (first | ((with_reducible refine gate_dst (N := 27) rfl ?_); refine Kd.R_lit (Kd.int .i64) _ 3 ?hg (N := 27) ?hd (xs := ([4, 1, 3] : List Int)) (inner := [.int .i64 4, .int .i64 1, .int .i64 3]) (ok := fun _ => True) (okp := fun _ => True) ?hr ?hp (fun _ hk => hk) trivial (Below.refl _ _) (Nat.le_refl _) (by simp) ?_; (case hd => rfl); (case hg => rfl); (case hr => first | (go_simp; done) | (go_simp; rfl)); (case hp => exact (Reps.one (show Kd.M (Kd.int .i64) _ _ _ 4 [.int .i64 4] from rfl) (Reps.one (show Kd.M (Kd.int .i64) _ _ _ 1 [.int .i64 1] from rfl) (Reps.one (show Kd.M (Kd.int .i64) _ _ _ 3 [.int .i64 3] from rfl) (Reps.none _ _))))); intro v455 w12 ho13 hb hg_ hnew_; clear hg_ hnew_; (first | rw [← Ny454.out] at ho13 | (simp only [Int.reduceToNat] at ho13; rw [← Ny454.out] at ho13)); have n0_ := Aside0.mk (Kd.R_below (by (with_reducible repeat (first | apply Kd.R_alloc | apply Kd.R_drewN | apply Kd.R_drew)); exact HO_2.out) hb); have n1_ := Aside0.mk (Kd.R_lower ho13 (below_size (bwA))); have n2_ := Aside0.mk (below_step (bwA) hb); clear HO_2; clear HB; have HO_2 := n0_; have HO456 := n1_; have HB := n2_; clear n0_ n1_ n2_; clear hb ho13; obtain ⟨Ao14, co14, eo14⟩ := Kd.R_slice HO456.out; subst eo14) | ((with_reducible refine gate_callee (f := 63) rfl ?_); refine goesA (some 28) Tryz.func63 #[.string x3_1, .slice Ao14 y454.length co14] ?_; (with_reducible refine (quic_Take.calls k1 x3_1 _ _ y454 t457 t458 t459 _ ?side1 ?side2 A6.out).mono ?_); (case side1 => repeat (first | exact (Kd.R_reads' HO456.out).2.2 | (with_reducible refine Kd.C_alloc ?_ _) | (with_reducible refine Kd.C_drewN ?_ _) | (with_reducible refine Kd.C_drew ?_))); (case side2 => exact (Kd.R_reads' HO456.out).2.1); rintro e w15 ⟨v460, rfl, ho0, hb⟩; refine ⟨_, rfl, ?_⟩; have n0_ := Aside0.mk (Kd.R_below (by (with_reducible repeat (first | apply Kd.R_alloc | apply Kd.R_drewN | apply Kd.R_drew)); exact HO_2.out) hb); have n1_ := Aside0.mk (Kd.R_below (by (with_reducible repeat (first | apply Kd.R_alloc | apply Kd.R_drewN | apply Kd.R_drew)); exact HO456.out) hb); have n2_ := Aside0.mk (Kd.R_lower ho0 (below_size (bwA))); have n3_ := Aside0.mk (below_step (bwA) hb); clear HO_2; clear HO456; clear HB; have HO_2 := n0_; have HO456 := n1_; have HO461 := n2_; have HB := n3_; clear n0_ n1_ n2_ n3_; (try clear hb); (try clear hb2); (try clear hk); (try clear hi); (try clear ho0)))
           have n0_ := Aside0.mk (Kd.R_drew HO_2.out)
           have n1_ := Aside0.mk (Kd.R_drew HO456.out)
           have n2_ := Aside0.mk (Kd.R_drew HO461.out)
           have n3_ := Aside0.mk (below_drew1 HB.out)
           clear HO_2
           clear HO456
           clear HO461
           clear HB
           have HO_2 := n0_
           have HO456 := n1_
           have HO461 := n2_
           have HB := n3_
           clear n0_ n1_ n2_ n3_
           obtain ⟨Ao17, co17, eo17⟩ := Kd.R_slice HO461.out
           (first | subst eo17 | (injection eo17 with f1_ f2_ f3_; have f4_ := f1_.symm; have f5_ := f3_.symm; clear f1_ f2_ f3_; subst f4_; subst f5_))
           have p462 : 0 ≤ (0 : Int) := (by omega)
           have q462 : 0 < (t457.length : Int) := odA
           obtain ⟨ad462, e462, hx462_0, hx462_1, hx462_2⟩ := at_T101 (Kd.R_reads' HO461.out).2.2 0 p462 q462
           cases e462
           have qi462 : (0 < t457.length) = True := eq_true (by omega)
           (try rw [show ((0 : Int)).toNat = 0 from rfl] at hx462_0)
           (try rw [show 0 * 3 = 0 from rfl] at hx462_0)
           (try rw [Addr.add_zero'] at hx462_0)
           (try rw [show ((0 : Int)).toNat = 0 from rfl] at hx462_1)
           (try rw [show 0 * 3 = 0 from rfl] at hx462_1)
           (try rw [Addr.add_zero'] at hx462_1)
           (try rw [show ((0 : Int)).toNat = 0 from rfl] at hx462_2)
           (try rw [show 0 * 3 = 0 from rfl] at hx462_2)
           (try rw [Addr.add_zero'] at hx462_2)
           replace p462 := eq_true p462
           replace q462 := eq_true q462
           have p463 : 0 ≤ (1 : Int) := (by omega)
           have q463 : 1 < (t457.length : Int) := odA
           obtain ⟨ad463, e463, hx463_0, hx463_1, hx463_2⟩ := at_T101 (Kd.R_reads' HO461.out).2.2 1 p463 q463
           obtain rfl : ad462 = ad463 := (by injection e463)
           (try simp only [show (1 : Int).toNat = 1 from rfl, Nat.reduceMul, Nat.reduceEqDiff, Go.Addr.add, ↓reduceIte] at hx463_0)
           (try simp only [show (1 : Int).toNat = 1 from rfl, Nat.reduceMul, Nat.reduceEqDiff, Go.Addr.add, ↓reduceIte] at hx463_1)
           (try simp only [show (1 : Int).toNat = 1 from rfl, Nat.reduceMul, Nat.reduceEqDiff, Go.Addr.add, ↓reduceIte] at hx463_2)
           have qi463 : (1 < t457.length) = True := eq_true (by omega)
           (try rw [show ((1 : Int)).toNat = 1 from rfl] at hx463_0)
           (try rw [show 1 * 3 = 3 from rfl] at hx463_0)
           (try rw [show ((1 : Int)).toNat = 1 from rfl] at hx463_1)
           (try rw [show 1 * 3 = 3 from rfl] at hx463_1)
           (try rw [show ((1 : Int)).toNat = 1 from rfl] at hx463_2)
           (try rw [show 1 * 3 = 3 from rfl] at hx463_2)
           replace p463 := eq_true p463
           replace q463 := eq_true q463
           have p464 : 0 ≤ (2 : Int) := (by omega)
           have q464 : 2 < (t457.length : Int) := odA
           obtain ⟨ad464, e464, hx464_0, hx464_1, hx464_2⟩ := at_T101 (Kd.R_reads' HO461.out).2.2 2 p464 q464
           obtain rfl : ad462 = ad464 := (by injection e464)
           (try simp only [show (2 : Int).toNat = 2 from rfl, Nat.reduceMul, Nat.reduceEqDiff, Go.Addr.add, ↓reduceIte] at hx464_0)
           (try simp only [show (2 : Int).toNat = 2 from rfl, Nat.reduceMul, Nat.reduceEqDiff, Go.Addr.add, ↓reduceIte] at hx464_1)
           (try simp only [show (2 : Int).toNat = 2 from rfl, Nat.reduceMul, Nat.reduceEqDiff, Go.Addr.add, ↓reduceIte] at hx464_2)
           have qi464 : (2 < t457.length) = True := eq_true (by omega)
           (try rw [show ((2 : Int)).toNat = 2 from rfl] at hx464_0)
           (try rw [show 2 * 3 = 6 from rfl] at hx464_0)
           (try rw [show ((2 : Int)).toNat = 2 from rfl] at hx464_1)
           (try rw [show 2 * 3 = 6 from rfl] at hx464_1)
           (try rw [show ((2 : Int)).toNat = 2 from rfl] at hx464_2)
           (try rw [show 2 * 3 = 6 from rfl] at hx464_2)
           replace p464 := eq_true p464
           replace q464 := eq_true q464
           refine start_ (n := 20) (S := fun w' => w'.cell? ad462 = some (.int .i64 ((rd_T101 t457 0).f0)) ∧ w'.cell? ⟨ad462.block, ad462.off + 1, none⟩ = some (.int .i64 ((rd_T101 t457 0).f1)) ∧ w'.cell? ⟨ad462.block, ad462.off + 2, none⟩ = some (.string ((rd_T101 t457 0).f2)) ∧ w'.cell? ⟨ad462.block, ad462.off + 3, none⟩ = some (.int .i64 ((rd_T101 t457 1).f0)) ∧ w'.cell? ⟨ad462.block, ad462.off + 3 + 1, none⟩ = some (.int .i64 ((rd_T101 t457 1).f1)) ∧ w'.cell? ⟨ad462.block, ad462.off + 3 + 2, none⟩ = some (.string ((rd_T101 t457 1).f2)) ∧ w'.cell? ⟨ad462.block, ad462.off + 6, none⟩ = some (.int .i64 ((rd_T101 t457 2).f0)) ∧ w'.cell? ⟨ad462.block, ad462.off + 6 + 1, none⟩ = some (.int .i64 ((rd_T101 t457 2).f1)) ∧ w'.cell? ⟨ad462.block, ad462.off + 6 + 2, none⟩ = some (.string ((rd_T101 t457 2).f2))) (ds := [15, 16]) (mkB 20 0) (by kernel_rfl) rfl rfl ⟨hx462_0, hx462_1, hx462_2, hx463_0, hx463_1, hx463_2, hx464_0, hx464_1, hx464_2⟩ (fun hHeld => ?_); refine with_tabW schema_Read.tab11 schema_Read.bits11 (fun HT_ HW_ => ?_)
           generalize w15.drew = w16 at HO_2 HO456 HO461 HB hx462_0 hx462_1 hx462_2 hx463_0 hx463_1 hx463_2 hx464_0 hx464_1 hx464_2 hHeld ⊢
           refine pureA 0 (some 35) (mkB 20 1) ?_
           refine pureA 1 (some 36) (mkB 20 3) ?_
           refine pureA 2 (some 37) (mkB 20 7) ?_
           refine pureA 3 (some 38) (mkB 20 15) ?_
           refine pureA 5 (some 40) (mkB 20 47) ?_
           refine pureA 6 (some 41) (mkB 20 111) ?_
           refine pureA 7 (some 42) (mkB 20 239) ?_
           refine pureA 9 (some 44) (mkB 20 751) ?_
           refine pureA 10 (some 45) (mkB 20 1775) ?_
           refine pureA 11 (some 46) (mkB 20 3823) ?_
           refine pureA 17 (some 52) (mkB 20 134895) ?_
           refine takeA 4 (some 39) (mkB 20 134911) ?_ rfl (Or.inl ⟨by rfl, by rintro w' ⟨s0, s1, s2, s3, s4, s5, s6, s7, s8⟩; go_simp; with_reducible rfl⟩)
           refine takeA 8 (some 43) (mkB 20 135167) ?_ rfl (Or.inl ⟨by rfl, by rintro w' ⟨s0, s1, s2, s3, s4, s5, s6, s7, s8⟩; go_simp; with_reducible rfl⟩)
           refine takeA 12 (some 47) (mkB 20 139263) ?_ rfl (Or.inl ⟨by rfl, by rintro w' ⟨s0, s1, s2, s3, s4, s5, s6, s7, s8⟩; go_simp; with_reducible rfl⟩)
           refine pureA 13 (some 48) (mkB 20 147455) ?_
           refine pureA 14 (some 49) (mkB 20 163839) ?_
           refine last_ (i := 15) (N := some 50) #[true, true, true, true, true, true, true, true, true, true, true, true, true, true, true, true, false, true, false, false] rfl rfl (one_of HT_.out (by kernel_rfl)) (by decide) (fun K hK => ?_)
           refine value_ (w1 := ?_) (v := ?_) (by rfl) rfl ?_ ?_
           rotate_left 2
           ·go_simp
            constructor
            ·rfl
            ·rfl
           refine hK.out _ _ ?_
           clear hK K
           refine normA ?_
           refine last_ (i := 16) (N := some 51) #[true, true, true, true, true, true, true, true, true, true, true, true, true, true, true, true, true, true, false, false] rfl rfl (one_of HT_.out (by kernel_rfl)) (by decide) (fun K hK => ?_)
           refine Kd.R_append_step k62 (w0 := w) w.heap.size (by rfl) (.tmp 35) (.tmp 50) 22 62 (.agg #[(.string ⟨#[]⟩), (.int .i64 0), (.bool false)]) 32 rfl Tryz.underlying22 info62 rfl (by decide) (by omega) u2 x2_1 (⟨(rd_T101 t457 0).f2, (rd_T101 t457 1).f1, (((rd_T101 t457 2).f1) == 1)⟩ : S62) [.string ((rd_T101 t457 0).f2), .int .i64 ((rd_T101 t457 1).f1), .bool (((rd_T101 t457 2).f1) == 1)] (fun _ => True) (fun _ => False) rfl rfl ?aP (fun _ hk => hk.elim) ?aF ?aO ?aB ?aS ?aL ?_
           (case aP => exact k62_mkM _ _ _ (⟨(rd_T101 t457 0).f2, (rd_T101 t457 1).f1, (((rd_T101 t457 2).f1) == 1)⟩ : S62))
           (case aB => exact (bwA))
           (case aF => exact (fun _ _ => trivial))
           (case aO => exact (by (with_reducible repeat (first | apply Kd.R_alloc | apply Kd.R_drewN | apply Kd.R_drew)); exact HO_2.out))
           (case aS => exact (below_size (bwA)))
           (case aL => have := LMc11.out; omega)
           intro v466 w18 ho hb hg hat
           rw [← Ny465.out] at ho
           have n0_ := Aside0.mk (Kd.R_over' (by (with_reducible repeat (first | apply Kd.R_alloc | apply Kd.R_drewN | apply Kd.R_drew)); exact HO456.out) (Kd.R_typed (by (with_reducible repeat (first | apply Kd.R_alloc | apply Kd.R_drewN | apply Kd.R_drew)); exact HO_2.out)) (by decide) hg)
           have n1_ := Aside0.mk (Kd.R_over' (by (with_reducible repeat (first | apply Kd.R_alloc | apply Kd.R_drewN | apply Kd.R_drew)); exact HO461.out) (Kd.R_typed (by (with_reducible repeat (first | apply Kd.R_alloc | apply Kd.R_drewN | apply Kd.R_drew)); exact HO_2.out)) (by decide) hg)
           have n2_ := Aside0.mk (hb)
           have n3_ := Aside0.mk (ho)
           clear HO456
           clear HO461
           clear HB
           clear HO_2
           have HO456 := n0_
           have HO461 := n1_
           have HB := n2_
           have HO467 := n3_
           clear n0_ n1_ n2_ n3_
           clear ho hb hg hat
           refine hK.out _ _ ?_
           clear hK K
           refine normA ?_
           refine pureA 18 (some 2) (mkB 20 524287) ?_
           refine pureA 19 (some 3) (mkB 20 1048575) ?_
           refine done_ (done_of HT_.out (by kernel_rfl)) ?_
           try go_wp2
           go_roundg k1
           case measure => have := HK1.out; omega
           case rel => exact ⟨(y465), (t458), (wrap64 (x23_1 + 1)), (endS), (endS), H', ⟨by have := HK1.out; omega⟩, ⟨by (with_reducible repeat (first | apply Kd.R_alloc | apply Kd.R_drewN | apply Kd.R_drew)); exact HO467.out⟩, ⟨bwA⟩⟩
          ·rw [if_neg c11] at H
           exact absurd H (by simp)
         ·rw [if_neg c10] at H
          exact absurd H (by simp)
        ·rw [if_neg c9] at H
         exact absurd H (by simp)
       ·rw [if_neg c8] at H
        exact absurd H (by simp)
      ·rw [if_neg c7] at H
       have c7b0 : (t459 == 0) = false := beq_eq_false_iff_ne.mpr c7
       have c7b1 : (t459 != 0) = true := bne_iff_ne.mpr c7
       simp only [Option.some.injEq, Prod.mk.injEq] at H
       obtain ⟨rfl, rfl, rfl⟩ := H
       go_wp2_with (first | ((with_reducible refine gate_dst (N := 27) rfl ?_); refine Kd.R_lit (Kd.int .i64) _ 3 ?hg (N := 27) ?hd (xs := ([4, 1, 3] : List Int)) (inner := [.int .i64 4, .int .i64 1, .int .i64 3]) (ok := fun _ => True) (okp := fun _ => True) ?hr ?hp (fun _ hk => hk) trivial (Below.refl _ _) (Nat.le_refl _) (by simp) ?_; (case hd => rfl); (case hg => rfl); (case hr => first | (go_simp; done) | (go_simp; rfl)); (case hp => exact (Reps.one (show Kd.M (Kd.int .i64) _ _ _ 4 [.int .i64 4] from rfl) (Reps.one (show Kd.M (Kd.int .i64) _ _ _ 1 [.int .i64 1] from rfl) (Reps.one (show Kd.M (Kd.int .i64) _ _ _ 3 [.int .i64 3] from rfl) (Reps.none _ _))))); intro v455 w19 ho20 hb hg_ hnew_; clear hg_ hnew_; (first | rw [← Ny454.out] at ho20 | (simp only [Int.reduceToNat] at ho20; rw [← Ny454.out] at ho20)); have n0_ := Aside0.mk (Kd.R_below (by (with_reducible repeat (first | apply Kd.R_alloc | apply Kd.R_drewN | apply Kd.R_drew)); exact HO_2.out) hb); have n1_ := Aside0.mk (Kd.R_lower ho20 (below_size (bwA))); have n2_ := Aside0.mk (below_step (bwA) hb); clear HO_2; clear HB; have HO_2 := n0_; have HO456 := n1_; have HB := n2_; clear n0_ n1_ n2_; clear hb ho20; obtain ⟨Ao21, co21, eo21⟩ := Kd.R_slice HO456.out; subst eo21) | ((with_reducible refine gate_callee (f := 63) rfl ?_); refine goesA (some 28) Tryz.func63 #[.string x3_1, .slice Ao21 y454.length co21] ?_; (with_reducible refine (quic_Take.calls k1 x3_1 _ _ y454 t457 t458 t459 _ ?side1 ?side2 A6.out).mono ?_); (case side1 => repeat (first | exact (Kd.R_reads' HO456.out).2.2 | (with_reducible refine Kd.C_alloc ?_ _) | (with_reducible refine Kd.C_drewN ?_ _) | (with_reducible refine Kd.C_drew ?_))); (case side2 => exact (Kd.R_reads' HO456.out).2.1); rintro e w22 ⟨v460, rfl, ho0, hb⟩; refine ⟨_, rfl, ?_⟩; have n0_ := Aside0.mk (Kd.R_below (by (with_reducible repeat (first | apply Kd.R_alloc | apply Kd.R_drewN | apply Kd.R_drew)); exact HO_2.out) hb); have n1_ := Aside0.mk (Kd.R_below (by (with_reducible repeat (first | apply Kd.R_alloc | apply Kd.R_drewN | apply Kd.R_drew)); exact HO456.out) hb); have n2_ := Aside0.mk (Kd.R_lower ho0 (below_size (bwA))); have n3_ := Aside0.mk (below_step (bwA) hb); clear HO_2; clear HO456; clear HB; have HO_2 := n0_; have HO456 := n1_; have HO461 := n2_; have HB := n3_; clear n0_ n1_ n2_ n3_; (try clear hb); (try clear hb2); (try clear hk); (try clear hi); (try clear ho0)))
       go_ret3
       exact ⟨_, endA, by first | exact Kd.R_nil _ _ _ _ _ | exact Kd.N_nil _ _ _ _ _ | exact Kd.V_nil _ _ _ _ _ | exact Kd.Q_nil _ _ _ _ _ | exact Kd.S_nil _ _ _ _ _, bwA⟩
     ·rw [if_neg c5] at H
      have c5b0 : decide (x23_1 < t451) = false := decide_eq_false c5
      clear c5
      replace H := Option.bind_eq_some_iff.mp H
      obtain ⟨t468, A230, H⟩ := H
      replace H : (if t468 = true then (some (x2_1, x3_1, 0)) else (some (([] : List (S62)), (⟨#[]⟩ : ByteArray), 3))) = some (r1, r2, r3) := H
      have A23 := Aside0.mk A230
      clear A230
      by_cases c24 : t468 = true
      ·subst c24
       have H1 : (some (x2_1, x3_1, 0)) = some (r1, r2, r3) := by rw [if_pos rfl] at H; exact H
       clear H
       have H := H1
       clear H1
       simp only [Option.some.injEq, Prod.mk.injEq] at H
       obtain ⟨rfl, rfl, rfl⟩ := H
       obtain ⟨Ao25, co25, eo25⟩ := Kd.R_slice HO_2.out
       subst eo25
       go_wp2_with (first | ((with_reducible refine gate_callee (f := 13) rfl ?_); refine goesA (some 55) Tryz.func13 #[.slice Ao25 x2_1.length co25] ?_; (with_reducible refine (schema_Check.calls k1 _ _ x2_1 true _ ?side1 ?side2 ?side3 A23.out).mono ?_); (case side1 => repeat (first | exact (Kd.R_reads' HO_2.out).2.2 | (with_reducible refine Kd.C_alloc ?_ _) | (with_reducible refine Kd.C_drewN ?_ _) | (with_reducible refine Kd.C_drew ?_))); (case side2 => exact (Kd.R_reads' HO_2.out).2.1); (case side3 => exact Tabs.below HT.out (bwA)); rintro e w26 ⟨rfl, hb⟩; refine ⟨_, rfl, ?_⟩; have n0_ := Aside0.mk (Kd.R_below (by (with_reducible repeat (first | apply Kd.R_alloc | apply Kd.R_drewN | apply Kd.R_drew)); exact HO_2.out) hb); have n1_ := Aside0.mk (below_step (bwA) hb); clear HO_2; clear HB; have HO_2 := n0_; have HB := n1_; clear n0_ n1_; (try clear hb); (try clear hb2); (try clear hk); (try clear hi)))
       go_ret3
       exact ⟨_, endA, by (with_reducible repeat (first | apply Kd.R_alloc | apply Kd.R_drewN | apply Kd.R_drew)); exact HO_2.out, bwA⟩
      ·replace c24 := Bool.eq_false_iff.mpr c24
       subst c24
       have H1 : (some (([] : List (S62)), (⟨#[]⟩ : ByteArray), 3)) = some (r1, r2, r3) := by rw [if_neg (show ¬ (false = true) by decide)] at H; exact H
       clear H
       have H := H1
       clear H1
       simp only [Option.some.injEq, Prod.mk.injEq] at H
       obtain ⟨rfl, rfl, rfl⟩ := H
       obtain ⟨Ao27, co27, eo27⟩ := Kd.R_slice HO_2.out
       subst eo27
       go_wp2_with (first | ((with_reducible refine gate_callee (f := 13) rfl ?_); refine goesA (some 55) Tryz.func13 #[.slice Ao27 x2_1.length co27] ?_; (with_reducible refine (schema_Check.calls k1 _ _ x2_1 false _ ?side1 ?side2 ?side3 A23.out).mono ?_); (case side1 => repeat (first | exact (Kd.R_reads' HO_2.out).2.2 | (with_reducible refine Kd.C_alloc ?_ _) | (with_reducible refine Kd.C_drewN ?_ _) | (with_reducible refine Kd.C_drew ?_))); (case side2 => exact (Kd.R_reads' HO_2.out).2.1); (case side3 => exact Tabs.below HT.out (bwA)); rintro e w28 ⟨rfl, hb⟩; refine ⟨_, rfl, ?_⟩; have n0_ := Aside0.mk (Kd.R_below (by (with_reducible repeat (first | apply Kd.R_alloc | apply Kd.R_drewN | apply Kd.R_drew)); exact HO_2.out) hb); have n1_ := Aside0.mk (below_step (bwA) hb); clear HO_2; clear HB; have HO_2 := n0_; have HB := n1_; clear n0_ n1_; (try clear hb); (try clear hb2); (try clear hk); (try clear hi)))
       go_ret3
       exact ⟨_, endA, by first | exact Kd.R_nil _ _ _ _ _ | exact Kd.N_nil _ _ _ _ _ | exact Kd.V_nil _ _ _ _ _ | exact Kd.Q_nil _ _ _ _ _ | exact Kd.S_nil _ _ _ _ _, bwA⟩
 ·rw [if_neg c3] at H
  have c3b0 : (t453 == 0) = false := beq_eq_false_iff_ne.mpr c3
  have c3b1 : (t453 != 0) = true := bne_iff_ne.mpr c3
  simp only [Option.some.injEq, Prod.mk.injEq] at H
  obtain ⟨rfl, rfl, rfl⟩ := H
  go_enter Tryz.func28, Tryz.ntmps28
  go_wp2_with (first | ((with_reducible refine gate_callee (f := 62) rfl ?_); refine goesA (some 11) Tryz.func62 #[.string a0] ?_; (with_reducible refine (quic_Get.calls k a0 t451 t452 t453 _ A2.out).mono ?_); rintro e w' ⟨rfl, ⟨nd, rfl⟩⟩; refine ⟨_, rfl, ?_⟩))
  go_ret3
  exact ⟨_, endA, by first | exact Kd.R_nil _ _ _ _ _ | exact Kd.N_nil _ _ _ _ _ | exact Kd.V_nil _ _ _ _ _ | exact Kd.Q_nil _ _ _ _ _ | exact Kd.S_nil _ _ _ _ _, bwA⟩

/-! ### schema_flag: function 64 -/
def schema_flag.f (a0 : Bool) : Option (Int) := if a0 = true then (some 1) else (some 0)
set_option maxHeartbeats 8000000 in
set_option maxRecDepth 100000 in
theorem schema_flag.calls (a0 : Bool) (r : Int) (w : World) (h : schema_flag.f a0 = some r) :
  Calls Tryz.prog 64 #[.bool a0] w fun e w' => e = .returned (.int .i64 r) ∧ Drawn0 w w' := by
 have H : (if a0 = true then (some 1) else (some 0)) = some r := h
 clear h
 by_cases c2 : a0 = true
 ·subst c2
  have H1 : (some 1) = some r := by rw [if_pos rfl] at H; exact H
  clear H
  have H := H1
  clear H1
  obtain rfl := Option.some.inj H
  go_enter Tryz.func64, Tryz.ntmps64
  go_wp2
  go_ret
  exact ⟨endS, drA⟩
 ·replace c2 := Bool.eq_false_iff.mpr c2
  subst c2
  have H1 : (some 0) = some r := by rw [if_neg (show ¬ (false = true) by decide)] at H; exact H
  clear H
  have H := H1
  clear H1
  obtain rfl := Option.some.inj H
  go_enter Tryz.func64, Tryz.ntmps64
  go_wp2
  go_ret
  exact ⟨endS, drA⟩

/-! ### quic_class: function 95 -/
def quic_class.l0 : Nat → Int → Int → Option (Int)
 | 0, _, _ => none
 | k + 1, x0, x3 => if x0 > 1 then (quic_class.l0 k (wrap64 (Int.tdiv x0 2)) (wrap64 (x3 + 1))) else (some x3)
def quic_class.f (k : Nat) (a0 : Int) : Option (Int) := quic_class.l0 k a0 0
theorem quic_class.mono_l : ∀ k, (∀ y0 y1, LeO (quic_class.l0 k y0 y1) (quic_class.l0 (k + 1) y0 y1))
 | 0 => fun _ _ r h => by simp [quic_class.l0] at h
 | k + 1 => by
  have ih0 := quic_class.mono_l k
  ·intro y0 y1
   unfold quic_class.l0
   repeat' first
   | (with_reducible exact ih0 _ _)
   | (with_reducible exact LeO.refl _)
   | (with_reducible exact LeO.none _)
   | (with_reducible refine LeO.ite ?_ ?_)
   | (with_reducible refine LeO.bind ?_ (fun _ => ?_))
   | exact ih0 _ _
   | exact LeO.none _
   | refine LeO.ite ?_ ?_
   | refine LeO.bind ?_ (fun _ => ?_)
theorem quic_class.mono : ∀ a0 k, LeO (quic_class.f k a0) (quic_class.f (k + 1) a0) := by
 intro a0 k
 have ih0 := quic_class.mono_l k
 unfold quic_class.f
 repeat' first
   | (with_reducible exact ih0 _ _)
   | (with_reducible exact LeO.refl _)
   | (with_reducible exact LeO.none _)
   | (with_reducible refine LeO.ite ?_ ?_)
   | (with_reducible refine LeO.bind ?_ (fun _ => ?_))
   | exact ih0 _ _
   | exact LeO.none _
   | refine LeO.ite ?_ ?_
   | refine LeO.bind ?_ (fun _ => ?_)
set_option maxHeartbeats 8000000 in
set_option maxRecDepth 100000 in
theorem quic_class.calls (k : Nat) (a0 : Int) (r : Int) (w : World) (h : quic_class.f k a0 = some r) :
  Calls Tryz.prog 95 #[.int .i64 a0] w fun e w' => e = .returned (.int .i64 r) ∧ Drawn0 w w' := by
 have H : (quic_class.l0 k a0 0) = some r := h
 clear h
 have H' := Aside0.mk H
 clear H
 go_enter Tryz.func95, Tryz.ntmps95
 go_wp2
 go_loopg [0, 3] k (fun kq v0 v3 w' => ∃ (x0_1 : Int) (x3_1 : Int), v0 = .int .i64 x0_1 ∧ v3 = .int .i64 x3_1 ∧ Aside0 (quic_class.l0 kq x0_1 x3_1 = some r) ∧ Aside0 (kq ≤ k) ∧ Drawn0 w w')
 case atStart => exact ⟨(a0), (0), (endS), (endS), H', ⟨Nat.le_refl _⟩, drA⟩
 case round =>
  clear H'
  obtain ⟨x0_1, x3_1, rfl, rfl, HA, HK1, ⟨m1, rfl⟩⟩ := hrel
  cases gk with
  | zero => exact absurd HA.out (by simp [quic_class.l0])
  | succ k1 =>
   have H := HA.out
   clear HA
   simp only [quic_class.l0] at H
   by_cases c2 : x0_1 > 1
   ·rw [if_pos c2] at H
    have c2b0 : decide (1 < x0_1) = true := decide_eq_true c2
    clear c2
    have H' := Aside0.mk H
    clear H
    go_wp2
    go_roundg k1
    case measure => have := HK1.out; omega
    case rel => exact ⟨(wrap64 (Int.tdiv x0_1 2)), (wrap64 (x3_1 + 1)), (endS), (endS), H', ⟨by have := HK1.out; omega⟩, drA⟩
   ·rw [if_neg c2] at H
    have c2b0 : decide (1 < x0_1) = false := decide_eq_false c2
    clear c2
    obtain rfl := Option.some.inj H
    go_wp2
    go_ret
    exact ⟨endS, drA⟩

end Go.Proofs.YtnbbajiabbmdmaaGreatDoor.A
