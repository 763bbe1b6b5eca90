-- By drv.py, the session's own driver round the kit's print: the machine's side of the laws, function by function. Not trusted: Lean checks it.
import Derived.Test.YtkdndabpaajkaaaGreatDoorAx0
import Derived.Test.YtkdndabpaajkaaaGreatDoorAx9
import Derived.Test.YtkdndabpaajkaaaGreatDoorAx28
import Derived.Test.YtkdndabpaajkaaaGreatDoorAx29
namespace Go.Proofs.YtkdndabpaajkaaaGreatDoor.A
open Go.RowKit Go.Proofs.YtkdndabpaajkaaaGreatDoorW.PrintWords Go.Proofs.YtkdndabpaajkaaaGreatDoorW.PrintLast Go.Proofs.YtkdndabpaajkaaaGreatDoorW.PrintMore
attribute [local go_sem] max2_int min2_int max_two min_two max_three min_three max_four min_four   -- for this text's walks alone
set_option linter.unusedVariables false
set_option linter.unusedSimpArgs false

/-! ### value_Read: function 195 -/
def value_Read.f (k : Nat) (a0 : ByteArray) : Option (Int × Int × ByteArray × ByteArray × Int) := (quic_Get.f k a0).bind fun bt384 => (if bt384.2.2 = 0 then ((value_how.f bt384.1).bind fun t387 => (if t387 = 0 then (some (0, 0, (⟨#[]⟩ : ByteArray), (⟨#[]⟩ : ByteArray), 8)) else ((value_how.f bt384.1).bind fun t388 => ((quic_Take.f k bt384.2.1 (([t388] : List Int))).bind fun bt392 => (if bt392.2.2 = 0 then (if 0 < (bt392.1.length : Int) then ((value_Check.f bt384.1 ((rd_T147 bt392.1 0).f1) ((rd_T147 bt392.1 0).f2)).bind fun t399 => (if t399 = true then (some (bt384.1, (rd_T147 bt392.1 0).f1, (rd_T147 bt392.1 0).f2, bt392.2.1, 0)) else (some (0, 0, (⟨#[]⟩ : ByteArray), (⟨#[]⟩ : ByteArray), 3)))) else (none)) else (some (0, 0, (⟨#[]⟩ : ByteArray), (⟨#[]⟩ : ByteArray), bt392.2.2))))))) else (some (0, 0, (⟨#[]⟩ : ByteArray), (⟨#[]⟩ : ByteArray), bt384.2.2)))
theorem value_Read.mono : ∀ a0 k, LeO (value_Read.f k a0) (value_Read.f (k + 1) a0) := by
 intro a0 k
 unfold value_Read.f
 repeat' (with_reducible first | exact quic_Get.mono _ _ | exact quic_Take.mono _ _ _ | exact LeO.refl _ | exact LeO.none _ | refine LeO.ite ?_ ?_ | refine LeO.bind ?_ (fun _ => ?_))
def value_Read.T9 : Bool × List (List Nat × List Nat) := (true, [([], []), ([], []), ([1], [1]), ([2], [2]), ([3], [3]), ([], []), ([5], [5]), ([6], [6]), ([7], [7]), ([0, 4, 8], [0, 4, 8]), ([9, 0, 1, 2, 3, 4, 5, 6, 7, 8, 9], [9])])
def value_Read.B9 : List Nat := [0, 0, 2, 6, 14, 0, 32, 96, 224, 511, 1023]
theorem value_Read.tab9 : rtab .any (opsOf Tryz.f195 9) = value_Read.T9 := by kernel_rfl
theorem value_Read.bits9 : waitsOk value_Read.T9.2 value_Read.B9 = true := by kernel_rfl
set_option maxHeartbeats 8000000 in
set_option maxRecDepth 100000 in
theorem value_Read.calls (k : Nat) (a0 : ByteArray) (r1 : Int) (r2 : Int) (r3 : ByteArray) (r4 : ByteArray) (r5 : Int) (w : World) (hT : Tabs w) (h : value_Read.f k a0 = some (r1, r2, r3, r4, r5)) :
  Calls Tryz.prog 195 #[.string a0] w fun e w' => e = .returned (.tuple #[.agg #[.int .i64 r1, .int .i64 r2, .string r3], .string r4, .int .i64 r5]) ∧ Below w.heap.size w w' := by
 have hu74 := Tryz.underlying74
 have HB := Aside0.mk (Below.refl w.heap.size w)
 unfold value_Read.f at h
 have H := h
 clear h
 have HT := Aside0.mk hT
 clear hT
 replace H := Option.bind_eq_some_iff.mp H
 obtain ⟨⟨t384, t385, t386⟩, A20, H⟩ := H
 replace H : (if t386 = 0 then ((value_how.f t384).bind fun t387 => (if t387 = 0 then (some (0, 0, (⟨#[]⟩ : ByteArray), (⟨#[]⟩ : ByteArray), 8)) else ((value_how.f t384).bind fun t388 => ((quic_Take.f k t385 (([t388] : List Int))).bind fun bt392 => (if bt392.2.2 = 0 then (if 0 < (bt392.1.length : Int) then ((value_Check.f t384 ((rd_T147 bt392.1 0).f1) ((rd_T147 bt392.1 0).f2)).bind fun t399 => (if t399 = true then (some (t384, (rd_T147 bt392.1 0).f1, (rd_T147 bt392.1 0).f2, bt392.2.1, 0)) else (some (0, 0, (⟨#[]⟩ : ByteArray), (⟨#[]⟩ : ByteArray), 3)))) else (none)) else (some (0, 0, (⟨#[]⟩ : ByteArray), (⟨#[]⟩ : ByteArray), bt392.2.2))))))) else (some (0, 0, (⟨#[]⟩ : ByteArray), (⟨#[]⟩ : ByteArray), t386))) = some (r1, r2, r3, r4, r5) := H
 have A2 := Aside0.mk A20
 clear A20
 revert H; refine itR ?L9p ?L9n
 case' L9p =>
  intro c3 H
  obtain ⟨c3b0, c3b1⟩ := fcE c3
  clear c3
  replace H := bnA H
  obtain ⟨t387, A4, H⟩ := H
  revert H; refine itR ?L10p ?L10n
  case' L10p =>
   intro c5 H
   obtain ⟨c5b0, c5b1⟩ := fcE c5
   clear c5
   simp only [Option.some.injEq, Prod.mk.injEq] at H
   obtain ⟨rfl, rfl, rfl, rfl, rfl⟩ := H
   have M1 := True.intro
   have M2 := True.intro
  case' L10n =>
   intro c5 H
   obtain ⟨c5b0, c5b1⟩ := fcN c5
   replace H := bnA H
   obtain ⟨t388, A6, H⟩ := H
   obtain ⟨y389, hy389⟩ : ∃ y_ : List Int, y_ = (([t388] : List Int)) := ⟨_, rfl⟩
   replace H : ((quic_Take.f k t385 y389).bind fun bt392 => (if bt392.2.2 = 0 then (if 0 < (bt392.1.length : Int) then ((value_Check.f t384 ((rd_T147 bt392.1 0).f1) ((rd_T147 bt392.1 0).f2)).bind fun t399 => (if t399 = true then (some (t384, (rd_T147 bt392.1 0).f1, (rd_T147 bt392.1 0).f2, bt392.2.1, 0)) else (some (0, 0, (⟨#[]⟩ : ByteArray), (⟨#[]⟩ : ByteArray), 3)))) else (none)) else (some (0, 0, (⟨#[]⟩ : ByteArray), (⟨#[]⟩ : ByteArray), bt392.2.2)))) = some (r1, r2, r3, r4, r5) := by first | (rw [hy389]; with_reducible exact H) | (have H2_ := (Option.bind_some _ _).symm.trans H; rw [hy389]; with_reducible exact H2_) | (have H2_ := (Option.bind_some _ _).symm.trans H; with_reducible exact H2_) | with_reducible exact H | (rw [hy389]; exact H) | exact H
   have Ny389 := Aside0.mk hy389
   clear hy389
   replace H := bnA H
   obtain ⟨⟨t392, t393, t394⟩, A7, H⟩ := H
   dsimp only at H
   revert H; refine itR ?L11p ?L11n
   case' L11p =>
    intro c8 H
    obtain ⟨c8b0, c8b1⟩ := fcE c8
    clear c8
    replace H := itN H
    obtain ⟨c9, H⟩ := H
    have c9b0 := decide_eq_true c9
    have c9b1 : decide (0 < t392.length) = true := decide_eq_true (by omega)
    clear c9
    replace H := bnA H
    obtain ⟨t399, A10, H⟩ := H
    revert H; refine itR ?L12p ?L12n
    case' L12p =>
     intro c11 H
     subst c11
     simp only [Option.some.injEq, Prod.mk.injEq] at H
     obtain ⟨rfl, rfl, rfl, rfl, rfl⟩ := H
     have M1 := True.intro
     have M3 := True.intro
     have M4 := True.intro
     have M5 := True.intro
    case' L12n =>
     intro c11 H
     replace c11 := Bool.eq_false_iff.mpr c11
     subst c11
     simp only [Option.some.injEq, Prod.mk.injEq] at H
     obtain ⟨rfl, rfl, rfl, rfl, rfl⟩ := H
     have M1 := True.intro
     have M3 := True.intro
     have M4 := True.intro
     have M6 := True.intro
   case' L11n =>
    intro c8 H
    obtain ⟨c8b0, c8b1⟩ := fcN c8
    simp only [Option.some.injEq, Prod.mk.injEq] at H
    obtain ⟨rfl, rfl, rfl, rfl, rfl⟩ := H
    have M1 := True.intro
    have M3 := True.intro
    have M7 := True.intro
 case' L9n =>
  intro c3 H
  obtain ⟨c3b0, c3b1⟩ := fcN c3
  simp only [Option.some.injEq, Prod.mk.injEq] at H
  obtain ⟨rfl, rfl, rfl, rfl, rfl⟩ := H
  have M8 := True.intro
 all_goals
  case _ =>
   go_enter Tryz.func195, Tryz.ntmps195
   go_wp2_with (first | ((with_reducible refine gate_dst (N := 2) rfl ?_); refine boxA 2 #[.int .i64 0, .int .i64 0, .string (⟨#[]⟩ : ByteArray)] 74 ?_; intro gb383 hg w101 hbox hb; have BK383 := Aside0.mk (hbox); have GW383 := Aside0.mk (hgW hg : w.heap.size ≤ gb383); have GE383 := Aside0.mk (hgW hg : w.heap.size ≤ gb383); replace HB := Aside0.mk (below_step (bwA) hb); clear hb hbox hg) | ((with_reducible refine gate_callee (f := 108) rfl ?_); refine goesA (some 9) Tryz.func108 #[.string a0] ?_; (with_reducible refine (quic_Get.calls _ _ _ _ _ _ A2.out).mono ?_); rintro e w' ⟨rfl, ⟨nd, rfl⟩⟩; refine ⟨_, rfl, ?_⟩; (try (rw [drewN_self w101]; generalize hq_ : World.drewN w101 _ = w101; have n0_ : Aside0 (w101.heap[gb383]? = some (.cells #[.int .i64 0, .int .i64 0, .string (⟨#[]⟩ : ByteArray)] 74 (0, 0))) := ⟨by rw [← hq_]; exact blkA⟩; have n1_ : Aside0 (Below w.heap.size w w101) := ⟨by rw [← hq_]; exact (bwA)⟩; clear BK383 HB hq_; have BK383 := n0_; have HB := n1_; clear n0_ n1_)); apply stopA; (case other => exact True.intro)))
   case _ =>
    first
     | clear M1
       go_wp2_with (first | ((with_reducible refine gate_callee (f := 237) rfl ?_); refine goesA (some 18) Tryz.func237 #[.int .i64 t384] ?_; (with_reducible refine (value_how.calls _ _ _ A4.out).mono ?_); rintro e w' ⟨rfl, ⟨nd, rfl⟩⟩; refine ⟨_, rfl, ?_⟩; (try (rw [drewN_self w101]; generalize hq_ : World.drewN w101 _ = w101; have n0_ : Aside0 (w101.heap[gb383]? = some (.cells #[.int .i64 0, .int .i64 0, .string (⟨#[]⟩ : ByteArray)] 74 (0, 0))) := ⟨by rw [← hq_]; exact blkA⟩; have n1_ : Aside0 (Below w.heap.size w w101) := ⟨by rw [← hq_]; exact (bwA)⟩; clear BK383 HB hq_; have BK383 := n0_; have HB := n1_; clear n0_ n1_)); apply stopA; (case other => exact True.intro)))
       case _ =>
        first
         | clear M2
           have hcz102_0 := celA BK383.out 0 (.int .i64 0)
           have hcz102_1 := celA BK383.out 1 (.int .i64 0)
           have hcz102_2 := celA BK383.out 2 (.string (⟨#[]⟩ : ByteArray))
           have hfz102_0 := blk_frozen BK383.out 0
           have hfz102_1 := blk_frozen BK383.out 1
           have hfz102_2 := blk_frozen BK383.out 2
           (try go_wp2_with (fail))
           refine bodyPost_ret (results_ctt rfl _ _ gb383 74 #[.int .i64 0, .int .i64 0, .string (⟨#[]⟩ : ByteArray)] (0, 0) _ rfl (by refine blkP (cs := #[.int .i64 0, .int .i64 0, .string (⟨#[]⟩ : ByteArray)]) ?_ 2 _; refine blkP (cs := #[.int .i64 0, .int .i64 0, .string (⟨#[]⟩ : ByteArray)]) ?_ 1 _; refine blkP (cs := #[.int .i64 0, .int .i64 0, .string (⟨#[]⟩ : ByteArray)]) ?_ 0 _; (with_reducible repeat (first | refine blk_drewN ?_ _ | refine blk_drew ?_ | refine blk_alloc ?_ _)); exact BK383.out) Tryz.underlying74 rfl (by kernel_rfl)) rfl ?_
           exact ⟨endA, bwA⟩
         | clear M3
           go_wp2_with (first | ((with_reducible refine gate_callee (f := 237) rfl ?_); refine goesA (some 24) Tryz.func237 #[.int .i64 t384] ?_; (with_reducible refine (value_how.calls _ _ _ A6.out).mono ?_); rintro e w' ⟨rfl, ⟨nd, rfl⟩⟩; refine ⟨_, rfl, ?_⟩; (try (rw [drewN_self w101]; generalize hq_ : World.drewN w101 _ = w101; have n0_ : Aside0 (w101.heap[gb383]? = some (.cells #[.int .i64 0, .int .i64 0, .string (⟨#[]⟩ : ByteArray)] 74 (0, 0))) := ⟨by rw [← hq_]; exact blkA⟩; have n1_ : Aside0 (Below w.heap.size w w101) := ⟨by rw [← hq_]; exact (bwA)⟩; clear BK383 HB hq_; have BK383 := n0_; have HB := n1_; clear n0_ n1_))) | ((with_reducible refine gate_dst (N := 25) rfl ?_); refine Kd.R_lit (Kd.int .i64) _ 3 ?hg (N := 25) ?hd (xs := ([t388] : List Int)) (inner := [.int .i64 t388]) (ok := fun _ => True) (okp := fun _ => True) ?hr ?hp (fun _ hk => hk) trivial (Below.refl _ _) (Nat.le_refl _) (by simp) ?_; (case hd => rfl); (case hg => rfl); (case hr => first | (go_simp; done) | (go_simp; rfl)); (case hp => exact (Reps.one (show Kd.M (Kd.int .i64) _ _ _ t388 [.int .i64 t388] from rfl) (Reps.none _ _))); intro v390 w102 ho103 hb hg_ hnew_; clear hg_ hnew_; (first | rw [← Ny389.out] at ho103 | (simp only [Int.reduceToNat] at ho103; rw [← Ny389.out] at ho103)); have HO391 := Aside0.mk (Kd.R_lower ho103 (below_size (bwA))); replace BK383 := Aside0.mk (bkB BK383 hb); replace HB := Aside0.mk (below_step (bwA) hb); clear hb ho103; obtain ⟨Ao104, co104, eo104⟩ := Kd.R_slice HO391.out; subst eo104) | ((with_reducible refine gate_callee (f := 99) rfl ?_); refine goesA (some 26) Tryz.func99 #[.string t385, .slice Ao104 y389.length co104] ?_; (with_reducible refine (quic_Take.calls _ _ _ _ _ _ _ _ _ ?side1 ?side2 A7.out).mono ?_); (case side1 => repeat (first | exact (Kd.R_reads' HO391.out).2.2 | (with_reducible refine Kd.C_alloc ?_ _) | (with_reducible refine Kd.C_drewN ?_ _) | (with_reducible refine Kd.C_drew ?_))); (case side2 => exact (Kd.R_reads' HO391.out).2.1); rintro e w105 ⟨v395, rfl, ho0, hb⟩; refine ⟨_, rfl, ?_⟩; have HO396 := Aside0.mk (Kd.R_lower ho0 (below_size (bwA))); replace HO391 := Aside0.mk (Kd.R_below (raA HO391.out) hb); replace BK383 := Aside0.mk (bkB BK383 hb); replace HB := Aside0.mk (below_step (bwA) hb); (try clear hb); (try clear ho0); apply stopA; (case other => exact True.intro)))
           case _ =>
            first
             | clear M4
               (try go_wp2_with (fail))
               replace HO391 := Aside0.mk (Kd.R_drew HO391.out)
               replace HO396 := Aside0.mk (Kd.R_drew HO396.out)
               replace BK383 := Aside0.mk (blk_drew BK383.out)
               replace HB := Aside0.mk (below_drew1 HB.out)
               obtain ⟨Ao107, co107, eo107⟩ := Kd.R_slice HO396.out
               (first | subst eo107 | (injection eo107 with f1_ f2_ f3_; have f4_ := f1_.symm; have f5_ := f3_.symm; clear f1_ f2_ f3_; subst f4_; subst f5_))
               have p397 : 0 ≤ (0 : Int) := (by omega)
               have q397 : 0 < (t392.length : Int) := odA
               obtain ⟨ad397, e397, hx397_0, hx397_1, hx397_2⟩ := at_T147 (Kd.R_reads' HO396.out).2.2 0 p397 q397
               cases e397
               have qi397 : (0 < t392.length) = True := eq_true (by omega)
               (try rw [show ((0 : Int)).toNat = 0 from rfl] at hx397_0)
               (try rw [show 0 * 3 = 0 from rfl] at hx397_0)
               (try rw [Addr.add_zero'] at hx397_0)
               (try rw [show ((0 : Int)).toNat = 0 from rfl] at hx397_1)
               (try rw [show 0 * 3 = 0 from rfl] at hx397_1)
               (try rw [Addr.add_zero'] at hx397_1)
               (try rw [show ((0 : Int)).toNat = 0 from rfl] at hx397_2)
               (try rw [show 0 * 3 = 0 from rfl] at hx397_2)
               (try rw [Addr.add_zero'] at hx397_2)
               replace p397 := eq_true p397
               replace q397 := eq_true q397
               have p398 : 0 ≤ (0 : Int) := (by omega)
               have q398 : 0 < (t392.length : Int) := odA
               obtain ⟨ad398, e398, hx398_0, hx398_1, hx398_2⟩ := at_T147 (Kd.R_reads' HO396.out).2.2 0 p398 q398
               obtain rfl : ad397 = ad398 := (by injection e398)
               have qi398 : (0 < t392.length) = True := eq_true (by omega)
               (try rw [show ((0 : Int)).toNat = 0 from rfl] at hx398_0)
               (try rw [show 0 * 3 = 0 from rfl] at hx398_0)
               (try rw [Addr.add_zero'] at hx398_0)
               (try rw [show ((0 : Int)).toNat = 0 from rfl] at hx398_1)
               (try rw [show 0 * 3 = 0 from rfl] at hx398_1)
               (try rw [Addr.add_zero'] at hx398_1)
               (try rw [show ((0 : Int)).toNat = 0 from rfl] at hx398_2)
               (try rw [show 0 * 3 = 0 from rfl] at hx398_2)
               (try rw [Addr.add_zero'] at hx398_2)
               replace p398 := eq_true p398
               replace q398 := eq_true q398
               refine start_ (n := 11) (S := fun w' => w'.cell? ad397 = some (.int .i64 ((rd_T147 t392 0).f0)) ∧ w'.cell? ⟨ad397.block, ad397.off + 1, none⟩ = some (.int .i64 ((rd_T147 t392 0).f1)) ∧ w'.cell? ⟨ad397.block, ad397.off + 2, none⟩ = some (.string ((rd_T147 t392 0).f2)) ∧ w'.cell? ad397 = some (.int .i64 ((rd_T147 t392 0).f0)) ∧ w'.cell? ⟨ad397.block, ad397.off + 1, none⟩ = some (.int .i64 ((rd_T147 t392 0).f1)) ∧ w'.cell? ⟨ad397.block, ad397.off + 2, none⟩ = some (.string ((rd_T147 t392 0).f2))) (ds := []) (mkB 11 0) (by kernel_rfl) rfl rfl ⟨hx397_0, hx397_1, hx397_2, hx398_0, hx398_1, hx398_2⟩ (fun hHeld => ?_); refine with_tabW value_Read.tab9 value_Read.bits9 (fun HT_ HW_ => ?_)
               generalize w105.drew = w106 at HO391 HO396 BK383 HB hx397_0 hx397_1 hx397_2 hx398_0 hx398_1 hx398_2 hHeld ⊢
               refine pureA 0 (some 34) (mkB 11 1) ?_
               refine pureA 1 (some 35) (mkB 11 3) ?_
               refine pureA 2 (some 36) (mkB 11 7) ?_
               refine pureA 3 (some 37) (mkB 11 15) ?_
               refine pureA 5 (some 39) (mkB 11 47) ?_
               refine pureA 6 (some 40) (mkB 11 111) ?_
               refine pureA 7 (some 41) (mkB 11 239) ?_
               refine takeA 4 (some 38) (mkB 11 255) ?_ rfl (Or.inl ⟨by rfl, by rintro w' ⟨s0, s1, s2, s3, s4, s5⟩; go_simp; with_reducible rfl⟩)
               refine takeA 8 (some 42) (mkB 11 511) ?_ rfl (Or.inl ⟨by rfl, by rintro w' ⟨s0, s1, s2, s3, s4, s5⟩; go_simp; with_reducible rfl⟩)
               refine pureA 9 (some 43) (mkB 11 1023) ?_
               refine oneA 10 (none) (mkB 11 2047) (fun K hK => ?_)
               have hs108 : w106.cell? ⟨gb383, 0, none⟩ = some (.int .i64 0) := (blk_cell BK383.out 0).trans rfl
               have hfs108 := blk_frozen BK383.out 0
               have hs109 : w106.cell? ⟨gb383, 1, none⟩ = some (.int .i64 0) := (blk_cell BK383.out 1).trans rfl
               have hfs109 := blk_frozen BK383.out 1
               have hs110 : w106.cell? ⟨gb383, 2, none⟩ = some (.string (⟨#[]⟩ : ByteArray)) := (blk_cell BK383.out 2).trans rfl
               have hfs110 := blk_frozen BK383.out 2
               refine skip_ (w1 := ?_) (by rfl) rfl ?_ ?_
               rotate_left
               ·go_simp
                rfl
               have nz0_ := Aside0.mk (Kd.own_blk (Kd.R_ne HO396.out BK383.out (by decide)))
               refine hK.out _ _ ⟨far3 nz0_.out hHeld.1, far3 nz0_.out hHeld.2.1, far3 nz0_.out hHeld.2.2.1, far3 nz0_.out hHeld.2.2.2.1, far3 nz0_.out hHeld.2.2.2.2.1, far3 nz0_.out hHeld.2.2.2.2.2⟩ (fun hHeld => ?_)
               clear hK K
               refine done_ (done_of HT_.out (by kernel_rfl)) ?_
               have hcz111_0 := celA BK383.out 0 (.int .i64 0)
               have hcz111_1 := celA BK383.out 1 (.int .i64 0)
               have hcz111_2 := celA BK383.out 2 (.string (⟨#[]⟩ : ByteArray))
               have hfz111_0 := blk_frozen BK383.out 0
               have hfz111_1 := blk_frozen BK383.out 1
               have hfz111_2 := blk_frozen BK383.out 2
               try go_wp2_with (first | ((with_reducible refine gate_callee (f := 177) rfl ?_); refine goesA (some 45) Tryz.func177 #[.agg #[.int .i64 t384, .int .i64 ((rd_T147 t392 0).f1), .string ((rd_T147 t392 0).f2)]] ?_; (with_reducible refine (value_Check.calls _ _ _ _ _ ?side1 A10.out).mono ?_); (case side1 => exact Tabs.below HT.out (bwA)); rintro e w112 ⟨rfl, hb⟩; refine ⟨_, rfl, ?_⟩; replace HO391 := Aside0.mk (Kd.R_below (raA (Kd.R_mono (Kd.R_far (p := ⟨gb383, 2, none⟩) (Kd.R_far (p := ⟨gb383, 1, none⟩) (Kd.R_far (p := ⟨gb383, 0, none⟩) (Kd.R_types HO391.out BK383.out (by decide)) (fun _ hk => hk.2) (.int .i64 t384)) (fun _ hk => hk.2) (.int .i64 ((rd_T147 t392 0).f1))) (fun _ hk => hk.2) (.string ((rd_T147 t392 0).f2))) (fun _ h_ => h_.1))) hb); replace HO396 := Aside0.mk (Kd.R_below (raA (Kd.R_mono (Kd.R_far (p := ⟨gb383, 2, none⟩) (Kd.R_far (p := ⟨gb383, 1, none⟩) (Kd.R_far (p := ⟨gb383, 0, none⟩) (Kd.R_types HO396.out BK383.out (by decide)) (fun _ hk => hk.2) (.int .i64 t384)) (fun _ hk => hk.2) (.int .i64 ((rd_T147 t392 0).f1))) (fun _ hk => hk.2) (.string ((rd_T147 t392 0).f2))) (fun _ h_ => h_.1))) hb); replace BK383 := Aside0.mk (blk_below (g := gb383) (o := .cells #[.int .i64 t384, .int .i64 ((rd_T147 t392 0).f1), .string ((rd_T147 t392 0).f2)] 74 (0, 0)) (by refine blkP (cs := #[.int .i64 t384, .int .i64 ((rd_T147 t392 0).f1), .string (⟨#[]⟩ : ByteArray)]) ?_ 2 _; refine blkP (cs := #[.int .i64 t384, .int .i64 0, .string (⟨#[]⟩ : ByteArray)]) ?_ 1 _; refine blkP (cs := #[.int .i64 0, .int .i64 0, .string (⟨#[]⟩ : ByteArray)]) ?_ 0 _; (with_reducible repeat (first | refine blk_drewN ?_ _ | refine blk_drew ?_ | refine blk_alloc ?_ _)); exact BK383.out) hb); replace HB := Aside0.mk (below_step (bwA) hb); (try clear hb); have hcz113_0 := celA BK383.out 0 (.int .i64 t384); have hcz113_1 := celA BK383.out 1 (.int .i64 ((rd_T147 t392 0).f1)); have hcz113_2 := celA BK383.out 2 (.string ((rd_T147 t392 0).f2)); have hfz113_0 := blk_frozen BK383.out 0; have hfz113_1 := blk_frozen BK383.out 1; have hfz113_2 := blk_frozen BK383.out 2))
               first
                | clear M5
                  refine bodyPost_ret (results_ctt rfl _ _ gb383 74 #[.int .i64 t384, .int .i64 ((rd_T147 t392 0).f1), .string ((rd_T147 t392 0).f2)] (0, 0) _ rfl (by refine blkP (cs := #[.int .i64 t384, .int .i64 ((rd_T147 t392 0).f1), .string ((rd_T147 t392 0).f2)]) ?_ 2 _; refine blkP (cs := #[.int .i64 t384, .int .i64 ((rd_T147 t392 0).f1), .string ((rd_T147 t392 0).f2)]) ?_ 1 _; refine blkP (cs := #[.int .i64 t384, .int .i64 ((rd_T147 t392 0).f1), .string ((rd_T147 t392 0).f2)]) ?_ 0 _; (with_reducible repeat (first | refine blk_drewN ?_ _ | refine blk_drew ?_ | refine blk_alloc ?_ _)); exact BK383.out) Tryz.underlying74 rfl (by kernel_rfl)) rfl ?_
                  exact ⟨endA, bwA⟩
                | clear M6
                  refine bodyPost_ret (results_ctt rfl _ _ gb383 74 #[.int .i64 0, .int .i64 0, .string (⟨#[]⟩ : ByteArray)] (0, 0) _ rfl (by refine blkP (cs := #[.int .i64 0, .int .i64 0, .string ((rd_T147 t392 0).f2)]) ?_ 2 _; refine blkP (cs := #[.int .i64 0, .int .i64 ((rd_T147 t392 0).f1), .string ((rd_T147 t392 0).f2)]) ?_ 1 _; refine blkP (cs := #[.int .i64 t384, .int .i64 ((rd_T147 t392 0).f1), .string ((rd_T147 t392 0).f2)]) ?_ 0 _; (with_reducible repeat (first | refine blk_drewN ?_ _ | refine blk_drew ?_ | refine blk_alloc ?_ _)); exact BK383.out) Tryz.underlying74 rfl (by kernel_rfl)) rfl ?_
                  exact ⟨endA, bwA⟩
             | clear M7
               have hcz106_0 := celA BK383.out 0 (.int .i64 0)
               have hcz106_1 := celA BK383.out 1 (.int .i64 0)
               have hcz106_2 := celA BK383.out 2 (.string (⟨#[]⟩ : ByteArray))
               have hfz106_0 := blk_frozen BK383.out 0
               have hfz106_1 := blk_frozen BK383.out 1
               have hfz106_2 := blk_frozen BK383.out 2
               (try go_wp2_with (fail))
               refine bodyPost_ret (results_ctt rfl _ _ gb383 74 #[.int .i64 0, .int .i64 0, .string (⟨#[]⟩ : ByteArray)] (0, 0) _ rfl (by refine blkP (cs := #[.int .i64 0, .int .i64 0, .string (⟨#[]⟩ : ByteArray)]) ?_ 2 _; refine blkP (cs := #[.int .i64 0, .int .i64 0, .string (⟨#[]⟩ : ByteArray)]) ?_ 1 _; refine blkP (cs := #[.int .i64 0, .int .i64 0, .string (⟨#[]⟩ : ByteArray)]) ?_ 0 _; (with_reducible repeat (first | refine blk_drewN ?_ _ | refine blk_drew ?_ | refine blk_alloc ?_ _)); exact BK383.out) Tryz.underlying74 rfl (by kernel_rfl)) rfl ?_
               exact ⟨endA, bwA⟩
     | clear M8
       have hcz102_0 := celA BK383.out 0 (.int .i64 0)
       have hcz102_1 := celA BK383.out 1 (.int .i64 0)
       have hcz102_2 := celA BK383.out 2 (.string (⟨#[]⟩ : ByteArray))
       have hfz102_0 := blk_frozen BK383.out 0
       have hfz102_1 := blk_frozen BK383.out 1
       have hfz102_2 := blk_frozen BK383.out 2
       (try go_wp2_with (fail))
       refine bodyPost_ret (results_ctt rfl _ _ gb383 74 #[.int .i64 0, .int .i64 0, .string (⟨#[]⟩ : ByteArray)] (0, 0) _ rfl (by refine blkP (cs := #[.int .i64 0, .int .i64 0, .string (⟨#[]⟩ : ByteArray)]) ?_ 2 _; refine blkP (cs := #[.int .i64 0, .int .i64 0, .string (⟨#[]⟩ : ByteArray)]) ?_ 1 _; refine blkP (cs := #[.int .i64 0, .int .i64 0, .string (⟨#[]⟩ : ByteArray)]) ?_ 0 _; (with_reducible repeat (first | refine blk_drewN ?_ _ | refine blk_drew ?_ | refine blk_alloc ?_ _)); exact BK383.out) Tryz.underlying74 rfl (by kernel_rfl)) rfl ?_
       exact ⟨endA, bwA⟩
end Go.Proofs.YtkdndabpaajkaaaGreatDoor.A
