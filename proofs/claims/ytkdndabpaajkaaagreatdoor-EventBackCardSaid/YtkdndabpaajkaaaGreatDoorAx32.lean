-- By drv.py, the session's own driver round the kit's print: the machine's side of the laws, function by function. Not trusted: Lean checks it.
import Derived.Test.YtkdndabpaajkaaaGreatDoorAx0
import Derived.Test.YtkdndabpaajkaaaGreatDoorAx11
import Derived.Test.YtkdndabpaajkaaaGreatDoorAx29
import Derived.Test.YtkdndabpaajkaaaGreatDoorAx31
namespace Go.Proofs.YtkdndabpaajkaaaGreatDoor.A
open Go.RowKit Go.Proofs.YtkdndabpaajkaaaGreatDoorW.PrintWords Go.Proofs.YtkdndabpaajkaaaGreatDoorW.PrintLast Go.Proofs.YtkdndabpaajkaaaGreatDoorW.PrintMore
attribute [local go_sem] max2_int min2_int max_two min_two max_three min_three max_four min_four   -- for this text's walks alone
set_option linter.unusedVariables false
set_option linter.unusedSimpArgs false

/-! ### event_Read: function 65 -/
def event_Read.f (k : Nat) (a0 : ByteArray) : Option (Int × Int × Int × ByteArray × (List (S76)) × ByteArray × Int) := (quic_Take.f k a0 (([1, 1, 1, 4] : List Int))).bind fun bt426 => (if bt426.2.2 = 0 then (if 0 < (bt426.1.length : Int) then (if 1 < (bt426.1.length : Int) then (if 2 < (bt426.1.length : Int) then (if 3 < (bt426.1.length : Int) then ((schema_ReadAttrs.f k bt426.2.1).bind fun bt435 => (if bt435.2.2 = 0 then ((event_Check.f k ((rd_T147 bt426.1 0).f1) ((rd_T147 bt426.1 1).f1) ((rd_T147 bt426.1 2).f1) ((rd_T147 bt426.1 3).f2) bt435.1).bind fun t440 => (if t440 = true then (some ((rd_T147 bt426.1 0).f1, (rd_T147 bt426.1 1).f1, (rd_T147 bt426.1 2).f1, (rd_T147 bt426.1 3).f2, bt435.1, bt435.2.1, 0)) else (some (0, 0, 0, (⟨#[]⟩ : ByteArray), ([] : List (S76)), (⟨#[]⟩ : ByteArray), 3)))) else (some (0, 0, 0, (⟨#[]⟩ : ByteArray), ([] : List (S76)), (⟨#[]⟩ : ByteArray), bt435.2.2)))) else (none)) else (none)) else (none)) else (none)) else (some (0, 0, 0, (⟨#[]⟩ : ByteArray), ([] : List (S76)), (⟨#[]⟩ : ByteArray), bt426.2.2)))
theorem event_Read.mono : ∀ a0 k, LeO (event_Read.f k a0) (event_Read.f (k + 1) a0) := by
 intro a0 k
 unfold event_Read.f
 repeat' (with_reducible first | exact event_Check.mono _ _ _ _ _ _ | exact quic_Take.mono _ _ _ | exact schema_ReadAttrs.mono _ _ | exact LeO.refl _ | exact LeO.none _ | refine LeO.ite ?_ ?_ | refine LeO.bind ?_ (fun _ => ?_))
def event_Read.T4 : Bool × List (List Nat × List Nat) := (true, [([], []), ([0], [0]), ([1], [1]), ([2], [2]), ([], []), ([4], [4]), ([5], [5]), ([6], [6]), ([], []), ([8], [8]), ([9], [9]), ([10], [10]), ([3, 7, 11], [3, 7, 11]), ([], []), ([13], [13]), ([14], [14]), ([15], [15]), ([12, 16], [12, 16]), ([17, 0, 1, 2, 3, 4, 5, 6, 7, 8, 9, 10, 11, 12, 13, 14, 15, 16, 17], [17])])
def event_Read.B4 : List Nat := [0, 1, 3, 7, 0, 16, 48, 112, 0, 256, 768, 1792, 4095, 0, 8192, 24576, 57344, 131071, 262143]
theorem event_Read.tab4 : rtab .any (opsOf Tryz.f65 4) = event_Read.T4 := by kernel_rfl
theorem event_Read.bits4 : waitsOk event_Read.T4.2 event_Read.B4 = true := by kernel_rfl
set_option maxHeartbeats 8000000 in
set_option maxRecDepth 100000 in
theorem event_Read.calls (k : Nat) (a0 : ByteArray) (r1 : Int) (r2 : Int) (r3 : Int) (r4 : ByteArray) (r5 : List (S76)) (r6 : ByteArray) (r7 : Int) (w : World) (hT : Tabs w) (h : event_Read.f k a0 = some (r1, r2, r3, r4, r5, r6, r7)) :
  Calls Tryz.prog 65 #[.string a0] w fun e w' => ∃ v4_ : Value, e = .returned (.tuple #[.agg #[.int .i64 r1, .int .i64 r2, .int .i64 r3, .string r4, v4_], .string r6, .int .i64 r7]) ∧ Kd.R k76 76 w' w.heap.size (fun _ => True) v4_ r5 ∧ Below w.heap.size w w' := by
 have hu66 := Tryz.underlying66
 have hu25 := Tryz.underlying25
 have HB := Aside0.mk (Below.refl w.heap.size w)
 unfold event_Read.f at h
 have H := h
 clear h
 have HT := Aside0.mk hT
 clear hT
 obtain ⟨y423, hy423⟩ : ∃ y_ : List Int, y_ = (([1, 1, 1, 4] : List Int)) := ⟨_, rfl⟩
 replace H : ((quic_Take.f k a0 y423).bind fun bt426 => (if bt426.2.2 = 0 then (if 0 < (bt426.1.length : Int) then (if 1 < (bt426.1.length : Int) then (if 2 < (bt426.1.length : Int) then (if 3 < (bt426.1.length : Int) then ((schema_ReadAttrs.f k bt426.2.1).bind fun bt435 => (if bt435.2.2 = 0 then ((event_Check.f k ((rd_T147 bt426.1 0).f1) ((rd_T147 bt426.1 1).f1) ((rd_T147 bt426.1 2).f1) ((rd_T147 bt426.1 3).f2) bt435.1).bind fun t440 => (if t440 = true then (some ((rd_T147 bt426.1 0).f1, (rd_T147 bt426.1 1).f1, (rd_T147 bt426.1 2).f1, (rd_T147 bt426.1 3).f2, bt435.1, bt435.2.1, 0)) else (some (0, 0, 0, (⟨#[]⟩ : ByteArray), ([] : List (S76)), (⟨#[]⟩ : ByteArray), 3)))) else (some (0, 0, 0, (⟨#[]⟩ : ByteArray), ([] : List (S76)), (⟨#[]⟩ : ByteArray), bt435.2.2)))) else (none)) else (none)) else (none)) else (none)) else (some (0, 0, 0, (⟨#[]⟩ : ByteArray), ([] : List (S76)), (⟨#[]⟩ : ByteArray), bt426.2.2)))) = some (r1, r2, r3, r4, r5, r6, r7) := by first | (rw [hy423]; with_reducible exact H) | (have H2_ := (Option.bind_some _ _).symm.trans H; rw [hy423]; with_reducible exact H2_) | (have H2_ := (Option.bind_some _ _).symm.trans H; with_reducible exact H2_) | with_reducible exact H | (rw [hy423]; exact H) | exact H
 have Ny423 := Aside0.mk hy423
 clear hy423
 replace H := Option.bind_eq_some_iff.mp H
 obtain ⟨⟨t426, t427, t428⟩, A20, H⟩ := H
 replace H : (if t428 = 0 then (if 0 < (t426.length : Int) then (if 1 < (t426.length : Int) then (if 2 < (t426.length : Int) then (if 3 < (t426.length : Int) then ((schema_ReadAttrs.f k t427).bind fun bt435 => (if bt435.2.2 = 0 then ((event_Check.f k ((rd_T147 t426 0).f1) ((rd_T147 t426 1).f1) ((rd_T147 t426 2).f1) ((rd_T147 t426 3).f2) bt435.1).bind fun t440 => (if t440 = true then (some ((rd_T147 t426 0).f1, (rd_T147 t426 1).f1, (rd_T147 t426 2).f1, (rd_T147 t426 3).f2, bt435.1, bt435.2.1, 0)) else (some (0, 0, 0, (⟨#[]⟩ : ByteArray), ([] : List (S76)), (⟨#[]⟩ : ByteArray), 3)))) else (some (0, 0, 0, (⟨#[]⟩ : ByteArray), ([] : List (S76)), (⟨#[]⟩ : ByteArray), bt435.2.2)))) else (none)) else (none)) else (none)) else (none)) else (some (0, 0, 0, (⟨#[]⟩ : ByteArray), ([] : List (S76)), (⟨#[]⟩ : ByteArray), t428))) = some (r1, r2, r3, r4, r5, r6, r7) := H
 have A2 := Aside0.mk A20
 clear A20
 revert H; refine itR ?L7p ?L7n
 case' L7p =>
  intro c3 H
  obtain ⟨c3b0, c3b1⟩ := fcE c3
  clear c3
  replace H := itN H
  obtain ⟨c4, H⟩ := H
  have c4b0 := decide_eq_true c4
  have c4b1 : decide (0 < t426.length) = true := decide_eq_true (by omega)
  clear c4
  replace H := itN H
  obtain ⟨c5, H⟩ := H
  have c5b0 := decide_eq_true c5
  have c5b1 : decide (1 < t426.length) = true := decide_eq_true (by omega)
  clear c5
  replace H := itN H
  obtain ⟨c6, H⟩ := H
  have c6b0 := decide_eq_true c6
  have c6b1 : decide (2 < t426.length) = true := decide_eq_true (by omega)
  clear c6
  replace H := itN H
  obtain ⟨c7, H⟩ := H
  have c7b0 := decide_eq_true c7
  have c7b1 : decide (3 < t426.length) = true := decide_eq_true (by omega)
  clear c7
  replace H := bnA H
  obtain ⟨⟨t435, t436, t437⟩, A8, H⟩ := H
  dsimp only at H
  revert H; refine itR ?L8p ?L8n
  case' L8p =>
   intro c9 H
   obtain ⟨c9b0, c9b1⟩ := fcE c9
   clear c9
   replace H := bnA H
   obtain ⟨t440, A10, H⟩ := H
   revert H; refine itR ?L9p ?L9n
   case' L9p =>
    intro c11 H
    subst c11
    simp only [Option.some.injEq, Prod.mk.injEq] at H
    obtain ⟨rfl, rfl, rfl, rfl, rfl, rfl, rfl⟩ := H
    have M1 := True.intro
    have M2 := True.intro
    have M3 := True.intro
   case' L9n =>
    intro c11 H
    replace c11 := Bool.eq_false_iff.mpr c11
    subst c11
    simp only [Option.some.injEq, Prod.mk.injEq] at H
    obtain ⟨rfl, rfl, rfl, rfl, rfl, rfl, rfl⟩ := H
    have M1 := True.intro
    have M2 := True.intro
    have M4 := True.intro
  case' L8n =>
   intro c9 H
   obtain ⟨c9b0, c9b1⟩ := fcN c9
   simp only [Option.some.injEq, Prod.mk.injEq] at H
   obtain ⟨rfl, rfl, rfl, rfl, rfl, rfl, rfl⟩ := H
   have M1 := True.intro
   have M5 := True.intro
 case' L7n =>
  intro c3 H
  obtain ⟨c3b0, c3b1⟩ := fcN c3
  simp only [Option.some.injEq, Prod.mk.injEq] at H
  obtain ⟨rfl, rfl, rfl, rfl, rfl, rfl, rfl⟩ := H
  have M6 := True.intro
 all_goals
  case _ =>
   go_enter Tryz.func65, Tryz.ntmps65
   go_wp2_with (first | ((with_reducible refine gate_dst (N := 2) rfl ?_); refine boxA 2 #[.int .i64 0, .int .i64 0, .int .i64 0, .string (⟨#[]⟩ : ByteArray), .slice none 0 0] 66 ?_; intro gb422 hg w101 hbox hb; have BK422 := Aside0.mk (hbox); have GW422 := Aside0.mk (hgW hg : w.heap.size ≤ gb422); have GE422 := Aside0.mk (hgW hg : w.heap.size ≤ gb422); replace HB := Aside0.mk (below_step (bwA) hb); clear hb hbox hg) | ((with_reducible refine gate_dst (N := 8) rfl ?_); refine Kd.R_lit (Kd.int .i64) _ 3 ?hg (N := 8) ?hd (xs := ([1, 1, 1, 4] : List Int)) (inner := [.int .i64 1, .int .i64 1, .int .i64 1, .int .i64 4]) (ok := fun _ => True) (okp := fun _ => True) ?hr ?hp (fun _ hk => hk) trivial (Below.refl _ _) (Nat.le_refl _) (by simp) ?_; (case hd => rfl); (case hg => rfl); (case hr => first | (go_simp; done) | (go_simp; rfl)); (case hp => exact (Reps.one (show Kd.M (Kd.int .i64) _ _ _ 1 [.int .i64 1] from rfl) (Reps.one (show Kd.M (Kd.int .i64) _ _ _ 1 [.int .i64 1] from rfl) (Reps.one (show Kd.M (Kd.int .i64) _ _ _ 1 [.int .i64 1] from rfl) (Reps.one (show Kd.M (Kd.int .i64) _ _ _ 4 [.int .i64 4] from rfl) (Reps.none _ _)))))); intro v424 w102 ho103 hb hg_ hnew_; clear hg_ hnew_; (first | rw [← Ny423.out] at ho103 | (simp only [Int.reduceToNat] at ho103; rw [← Ny423.out] at ho103)); have HO425 := Aside0.mk (Kd.R_lower ho103 (below_size (bwA))); replace BK422 := Aside0.mk (bkB BK422 hb); replace HB := Aside0.mk (below_step (bwA) hb); clear hb ho103; obtain ⟨Ao104, co104, eo104⟩ := Kd.R_slice HO425.out; subst eo104) | ((with_reducible refine gate_callee (f := 99) rfl ?_); refine goesA (some 9) Tryz.func99 #[.string a0, .slice Ao104 y423.length co104] ?_; (with_reducible refine (quic_Take.calls _ _ _ _ _ _ _ _ _ ?side1 ?side2 A2.out).mono ?_); (case side1 => repeat (first | exact (Kd.R_reads' HO425.out).2.2 | (with_reducible refine Kd.C_alloc ?_ _) | (with_reducible refine Kd.C_drewN ?_ _) | (with_reducible refine Kd.C_drew ?_))); (case side2 => exact (Kd.R_reads' HO425.out).2.1); rintro e w105 ⟨v429, rfl, ho0, hb⟩; refine ⟨_, rfl, ?_⟩; have HO430 := Aside0.mk (Kd.R_lower ho0 (below_size (bwA))); replace HO425 := Aside0.mk (Kd.R_below (raA HO425.out) hb); replace BK422 := Aside0.mk (bkB BK422 hb); replace HB := Aside0.mk (below_step (bwA) hb); (try clear hb); (try clear ho0); apply stopA; (case other => exact True.intro)))
   case _ =>
    first
     | clear M1
       (try go_wp2_with (fail))
       replace HO425 := Aside0.mk (Kd.R_drew HO425.out)
       replace HO430 := Aside0.mk (Kd.R_drew HO430.out)
       replace BK422 := Aside0.mk (blk_drew BK422.out)
       replace HB := Aside0.mk (below_drew1 HB.out)
       obtain ⟨Ao107, co107, eo107⟩ := Kd.R_slice HO430.out
       (first | subst eo107 | (injection eo107 with f1_ f2_ f3_; have f4_ := f1_.symm; have f5_ := f3_.symm; clear f1_ f2_ f3_; subst f4_; subst f5_))
       have p431 : 0 ≤ (0 : Int) := (by omega)
       have q431 : 0 < (t426.length : Int) := odA
       obtain ⟨ad431, e431, hx431_0, hx431_1, hx431_2⟩ := at_T147 (Kd.R_reads' HO430.out).2.2 0 p431 q431
       cases e431
       have qi431 : (0 < t426.length) = True := eq_true (by omega)
       (try rw [show ((0 : Int)).toNat = 0 from rfl] at hx431_0)
       (try rw [show 0 * 3 = 0 from rfl] at hx431_0)
       (try rw [Addr.add_zero'] at hx431_0)
       (try rw [show ((0 : Int)).toNat = 0 from rfl] at hx431_1)
       (try rw [show 0 * 3 = 0 from rfl] at hx431_1)
       (try rw [Addr.add_zero'] at hx431_1)
       (try rw [show ((0 : Int)).toNat = 0 from rfl] at hx431_2)
       (try rw [show 0 * 3 = 0 from rfl] at hx431_2)
       (try rw [Addr.add_zero'] at hx431_2)
       replace p431 := eq_true p431
       replace q431 := eq_true q431
       have p432 : 0 ≤ (1 : Int) := (by omega)
       have q432 : 1 < (t426.length : Int) := odA
       obtain ⟨ad432, e432, hx432_0, hx432_1, hx432_2⟩ := at_T147 (Kd.R_reads' HO430.out).2.2 1 p432 q432
       obtain rfl : ad431 = ad432 := (by injection e432)
       (try simp only [show (1 : Int).toNat = 1 from rfl, Nat.reduceMul, Nat.reduceEqDiff, Go.Addr.add, ↓reduceIte] at hx432_0)
       (try simp only [show (1 : Int).toNat = 1 from rfl, Nat.reduceMul, Nat.reduceEqDiff, Go.Addr.add, ↓reduceIte] at hx432_1)
       (try simp only [show (1 : Int).toNat = 1 from rfl, Nat.reduceMul, Nat.reduceEqDiff, Go.Addr.add, ↓reduceIte] at hx432_2)
       have qi432 : (1 < t426.length) = True := eq_true (by omega)
       (try rw [show ((1 : Int)).toNat = 1 from rfl] at hx432_0)
       (try rw [show 1 * 3 = 3 from rfl] at hx432_0)
       (try rw [show ((1 : Int)).toNat = 1 from rfl] at hx432_1)
       (try rw [show 1 * 3 = 3 from rfl] at hx432_1)
       (try rw [show ((1 : Int)).toNat = 1 from rfl] at hx432_2)
       (try rw [show 1 * 3 = 3 from rfl] at hx432_2)
       replace p432 := eq_true p432
       replace q432 := eq_true q432
       have p433 : 0 ≤ (2 : Int) := (by omega)
       have q433 : 2 < (t426.length : Int) := odA
       obtain ⟨ad433, e433, hx433_0, hx433_1, hx433_2⟩ := at_T147 (Kd.R_reads' HO430.out).2.2 2 p433 q433
       obtain rfl : ad431 = ad433 := (by injection e433)
       (try simp only [show (2 : Int).toNat = 2 from rfl, Nat.reduceMul, Nat.reduceEqDiff, Go.Addr.add, ↓reduceIte] at hx433_0)
       (try simp only [show (2 : Int).toNat = 2 from rfl, Nat.reduceMul, Nat.reduceEqDiff, Go.Addr.add, ↓reduceIte] at hx433_1)
       (try simp only [show (2 : Int).toNat = 2 from rfl, Nat.reduceMul, Nat.reduceEqDiff, Go.Addr.add, ↓reduceIte] at hx433_2)
       have qi433 : (2 < t426.length) = True := eq_true (by omega)
       (try rw [show ((2 : Int)).toNat = 2 from rfl] at hx433_0)
       (try rw [show 2 * 3 = 6 from rfl] at hx433_0)
       (try rw [show ((2 : Int)).toNat = 2 from rfl] at hx433_1)
       (try rw [show 2 * 3 = 6 from rfl] at hx433_1)
       (try rw [show ((2 : Int)).toNat = 2 from rfl] at hx433_2)
       (try rw [show 2 * 3 = 6 from rfl] at hx433_2)
       replace p433 := eq_true p433
       replace q433 := eq_true q433
       have p434 : 0 ≤ (3 : Int) := (by omega)
       have q434 : 3 < (t426.length : Int) := odA
       obtain ⟨ad434, e434, hx434_0, hx434_1, hx434_2⟩ := at_T147 (Kd.R_reads' HO430.out).2.2 3 p434 q434
       obtain rfl : ad431 = ad434 := (by injection e434)
       (try simp only [show (3 : Int).toNat = 3 from rfl, Nat.reduceMul, Nat.reduceEqDiff, Go.Addr.add, ↓reduceIte] at hx434_0)
       (try simp only [show (3 : Int).toNat = 3 from rfl, Nat.reduceMul, Nat.reduceEqDiff, Go.Addr.add, ↓reduceIte] at hx434_1)
       (try simp only [show (3 : Int).toNat = 3 from rfl, Nat.reduceMul, Nat.reduceEqDiff, Go.Addr.add, ↓reduceIte] at hx434_2)
       have qi434 : (3 < t426.length) = True := eq_true (by omega)
       (try rw [show ((3 : Int)).toNat = 3 from rfl] at hx434_0)
       (try rw [show 3 * 3 = 9 from rfl] at hx434_0)
       (try rw [show ((3 : Int)).toNat = 3 from rfl] at hx434_1)
       (try rw [show 3 * 3 = 9 from rfl] at hx434_1)
       (try rw [show ((3 : Int)).toNat = 3 from rfl] at hx434_2)
       (try rw [show 3 * 3 = 9 from rfl] at hx434_2)
       replace p434 := eq_true p434
       replace q434 := eq_true q434
       refine start_ (n := 19) (S := fun w' => w'.cell? ad431 = some (.int .i64 ((rd_T147 t426 0).f0)) ∧ w'.cell? ⟨ad431.block, ad431.off + 1, none⟩ = some (.int .i64 ((rd_T147 t426 0).f1)) ∧ w'.cell? ⟨ad431.block, ad431.off + 2, none⟩ = some (.string ((rd_T147 t426 0).f2)) ∧ w'.cell? ⟨ad431.block, ad431.off + 3, none⟩ = some (.int .i64 ((rd_T147 t426 1).f0)) ∧ w'.cell? ⟨ad431.block, ad431.off + 3 + 1, none⟩ = some (.int .i64 ((rd_T147 t426 1).f1)) ∧ w'.cell? ⟨ad431.block, ad431.off + 3 + 2, none⟩ = some (.string ((rd_T147 t426 1).f2)) ∧ w'.cell? ⟨ad431.block, ad431.off + 6, none⟩ = some (.int .i64 ((rd_T147 t426 2).f0)) ∧ w'.cell? ⟨ad431.block, ad431.off + 6 + 1, none⟩ = some (.int .i64 ((rd_T147 t426 2).f1)) ∧ w'.cell? ⟨ad431.block, ad431.off + 6 + 2, none⟩ = some (.string ((rd_T147 t426 2).f2)) ∧ w'.cell? ⟨ad431.block, ad431.off + 9, none⟩ = some (.int .i64 ((rd_T147 t426 3).f0)) ∧ w'.cell? ⟨ad431.block, ad431.off + 9 + 1, none⟩ = some (.int .i64 ((rd_T147 t426 3).f1)) ∧ w'.cell? ⟨ad431.block, ad431.off + 9 + 2, none⟩ = some (.string ((rd_T147 t426 3).f2))) (ds := []) (mkB 19 0) (by kernel_rfl) rfl rfl ⟨hx431_0, hx431_1, hx431_2, hx432_0, hx432_1, hx432_2, hx433_0, hx433_1, hx433_2, hx434_0, hx434_1, hx434_2⟩ (fun hHeld => ?_); refine with_tabW event_Read.tab4 event_Read.bits4 (fun HT_ HW_ => ?_)
       generalize w105.drew = w106 at HO425 HO430 BK422 HB hx431_0 hx431_1 hx431_2 hx432_0 hx432_1 hx432_2 hx433_0 hx433_1 hx433_2 hx434_0 hx434_1 hx434_2 hHeld ⊢
       refine pureA 0 (some 17) (mkB 19 1) ?_
       refine pureA 1 (some 18) (mkB 19 3) ?_
       refine pureA 2 (some 19) (mkB 19 7) ?_
       refine pureA 4 (some 21) (mkB 19 23) ?_
       refine pureA 5 (some 22) (mkB 19 55) ?_
       refine pureA 6 (some 23) (mkB 19 119) ?_
       refine pureA 8 (some 25) (mkB 19 375) ?_
       refine pureA 9 (some 26) (mkB 19 887) ?_
       refine pureA 10 (some 27) (mkB 19 1911) ?_
       refine pureA 13 (some 30) (mkB 19 10103) ?_
       refine pureA 14 (some 31) (mkB 19 26487) ?_
       refine pureA 15 (some 32) (mkB 19 59255) ?_
       refine takeA 3 (some 20) (mkB 19 59263) ?_ rfl (Or.inl ⟨by rfl, by rintro w' ⟨s0, s1, s2, s3, s4, s5, s6, s7, s8, s9, s10, s11⟩; go_simp; with_reducible rfl⟩)
       refine takeA 7 (some 24) (mkB 19 59391) ?_ rfl (Or.inl ⟨by rfl, by rintro w' ⟨s0, s1, s2, s3, s4, s5, s6, s7, s8, s9, s10, s11⟩; go_simp; with_reducible rfl⟩)
       refine takeA 11 (some 28) (mkB 19 61439) ?_ rfl (Or.inl ⟨by rfl, by rintro w' ⟨s0, s1, s2, s3, s4, s5, s6, s7, s8, s9, s10, s11⟩; go_simp; with_reducible rfl⟩)
       refine pureA 12 (some 29) (mkB 19 65535) ?_
       refine takeA 16 (some 33) (mkB 19 131071) ?_ rfl (Or.inl ⟨by rfl, by rintro w' ⟨s0, s1, s2, s3, s4, s5, s6, s7, s8, s9, s10, s11⟩; go_simp; with_reducible rfl⟩)
       refine pureA 17 (some 34) (mkB 19 262143) ?_
       refine oneA 18 (none) (mkB 19 524287) (fun K hK => ?_)
       have hs108 : w106.cell? ⟨gb422, 0, none⟩ = some (.int .i64 0) := (blk_cell BK422.out 0).trans rfl
       have hfs108 := blk_frozen BK422.out 0
       have hs109 : w106.cell? ⟨gb422, 1, none⟩ = some (.int .i64 0) := (blk_cell BK422.out 1).trans rfl
       have hfs109 := blk_frozen BK422.out 1
       have hs110 : w106.cell? ⟨gb422, 2, none⟩ = some (.int .i64 0) := (blk_cell BK422.out 2).trans rfl
       have hfs110 := blk_frozen BK422.out 2
       have hs111 : w106.cell? ⟨gb422, 3, none⟩ = some (.string (⟨#[]⟩ : ByteArray)) := (blk_cell BK422.out 3).trans rfl
       have hfs111 := blk_frozen BK422.out 3
       have hs112 : w106.cell? ⟨gb422, 4, none⟩ = some (.slice none 0 0) := (blk_cell BK422.out 4).trans rfl
       have hfs112 := blk_frozen BK422.out 4
       refine skip_ (w1 := ?_) (by rfl) rfl ?_ ?_
       rotate_left
       ·go_simp
        rfl
       have nz0_ := Aside0.mk (Kd.own_blk (Kd.R_ne HO430.out BK422.out (by decide)))
       refine hK.out _ _ ⟨far5 nz0_.out hHeld.1, far5 nz0_.out hHeld.2.1, far5 nz0_.out hHeld.2.2.1, far5 nz0_.out hHeld.2.2.2.1, far5 nz0_.out hHeld.2.2.2.2.1, far5 nz0_.out hHeld.2.2.2.2.2.1, far5 nz0_.out hHeld.2.2.2.2.2.2.1, far5 nz0_.out hHeld.2.2.2.2.2.2.2.1, far5 nz0_.out hHeld.2.2.2.2.2.2.2.2.1, far5 nz0_.out hHeld.2.2.2.2.2.2.2.2.2.1, far5 nz0_.out hHeld.2.2.2.2.2.2.2.2.2.2.1, far5 nz0_.out hHeld.2.2.2.2.2.2.2.2.2.2.2⟩ (fun hHeld => ?_)
       clear hK K
       refine done_ (done_of HT_.out (by kernel_rfl)) ?_
       go_wp2_with (first | ((with_reducible refine gate_callee (f := 134) rfl ?_); refine goesA (some 37) Tryz.func134 #[.string t427] ?_; (with_reducible refine (schema_ReadAttrs.calls _ _ _ _ _ _ ?side1 A8.out).mono ?_); (case side1 => exact Tabs.below HT.out (bwA)); rintro e w113 ⟨v438, rfl, ho0, hb⟩; refine ⟨_, rfl, ?_⟩; have HO439 := Aside0.mk (Kd.R_lower ho0 (below_size (bwA))); replace HO425 := Aside0.mk (Kd.R_below (raA (Kd.R_mono (Kd.R_far (p := ⟨gb422, 4, none⟩) (Kd.R_far (p := ⟨gb422, 3, none⟩) (Kd.R_far (p := ⟨gb422, 2, none⟩) (Kd.R_far (p := ⟨gb422, 1, none⟩) (Kd.R_far (p := ⟨gb422, 0, none⟩) (Kd.R_types HO425.out BK422.out (by decide)) (fun _ hk => hk.2) (.int .i64 ((rd_T147 t426 0).f1))) (fun _ hk => hk.2) (.int .i64 ((rd_T147 t426 1).f1))) (fun _ hk => hk.2) (.int .i64 ((rd_T147 t426 2).f1))) (fun _ hk => hk.2) (.string ((rd_T147 t426 3).f2))) (fun _ hk => hk.2) (.slice none 0 0)) (fun _ h_ => h_.1))) hb); replace HO430 := Aside0.mk (Kd.R_below (raA (Kd.R_mono (Kd.R_far (p := ⟨gb422, 4, none⟩) (Kd.R_far (p := ⟨gb422, 3, none⟩) (Kd.R_far (p := ⟨gb422, 2, none⟩) (Kd.R_far (p := ⟨gb422, 1, none⟩) (Kd.R_far (p := ⟨gb422, 0, none⟩) (Kd.R_types HO430.out BK422.out (by decide)) (fun _ hk => hk.2) (.int .i64 ((rd_T147 t426 0).f1))) (fun _ hk => hk.2) (.int .i64 ((rd_T147 t426 1).f1))) (fun _ hk => hk.2) (.int .i64 ((rd_T147 t426 2).f1))) (fun _ hk => hk.2) (.string ((rd_T147 t426 3).f2))) (fun _ hk => hk.2) (.slice none 0 0)) (fun _ h_ => h_.1))) hb); replace BK422 := Aside0.mk (blk_below (g := gb422) (o := .cells #[.int .i64 ((rd_T147 t426 0).f1), .int .i64 ((rd_T147 t426 1).f1), .int .i64 ((rd_T147 t426 2).f1), .string ((rd_T147 t426 3).f2), .slice none 0 0] 66 (0, 0)) (by refine blkP (cs := #[.int .i64 ((rd_T147 t426 0).f1), .int .i64 ((rd_T147 t426 1).f1), .int .i64 ((rd_T147 t426 2).f1), .string ((rd_T147 t426 3).f2), .slice none 0 0]) ?_ 4 _; refine blkP (cs := #[.int .i64 ((rd_T147 t426 0).f1), .int .i64 ((rd_T147 t426 1).f1), .int .i64 ((rd_T147 t426 2).f1), .string (⟨#[]⟩ : ByteArray), .slice none 0 0]) ?_ 3 _; refine blkP (cs := #[.int .i64 ((rd_T147 t426 0).f1), .int .i64 ((rd_T147 t426 1).f1), .int .i64 0, .string (⟨#[]⟩ : ByteArray), .slice none 0 0]) ?_ 2 _; refine blkP (cs := #[.int .i64 ((rd_T147 t426 0).f1), .int .i64 0, .int .i64 0, .string (⟨#[]⟩ : ByteArray), .slice none 0 0]) ?_ 1 _; refine blkP (cs := #[.int .i64 0, .int .i64 0, .int .i64 0, .string (⟨#[]⟩ : ByteArray), .slice none 0 0]) ?_ 0 _; (with_reducible repeat (first | refine blk_drewN ?_ _ | refine blk_drew ?_ | refine blk_alloc ?_ _)); exact BK422.out) hb); replace HB := Aside0.mk (below_step (bwA) hb); (try clear hb); (try clear ho0); obtain ⟨Ao114, co114, eo114⟩ := Kd.R_slice HO439.out; subst eo114; have hcz115_0 := celA BK422.out 0 (.int .i64 ((rd_T147 t426 0).f1)); have hcz115_1 := celA BK422.out 1 (.int .i64 ((rd_T147 t426 1).f1)); have hcz115_2 := celA BK422.out 2 (.int .i64 ((rd_T147 t426 2).f1)); have hcz115_3 := celA BK422.out 3 (.string ((rd_T147 t426 3).f2)); have hcz115_4 := celA BK422.out 4 (.slice none 0 0); have hfz115_0 := blk_frozen BK422.out 0; have hfz115_1 := blk_frozen BK422.out 1; have hfz115_2 := blk_frozen BK422.out 2; have hfz115_3 := blk_frozen BK422.out 3; have hfz115_4 := blk_frozen BK422.out 4; apply stopA; (case other => exact True.intro)))
       case _ =>
        first
         | clear M2
           try go_wp2_with (first | ((with_reducible refine gate_callee (f := 46) rfl ?_); refine goesA (some 49) Tryz.func46 #[.agg #[.int .i64 ((rd_T147 t426 0).f1), .int .i64 ((rd_T147 t426 1).f1), .int .i64 ((rd_T147 t426 2).f1), .string ((rd_T147 t426 3).f2), .slice Ao114 t435.length co114]] ?_; (with_reducible refine (event_Check.calls _ _ _ _ _ _ _ _ _ _ ?side1 ?side2 ?side3 A10.out).mono ?_); (case side1 => refine (Kd.R_reads' (e := 76) (base := w.heap.size) (ok := fun k_ => True) (n := t435.length) (c := co114) ?_).2.2; exact (raA (Kd.R_mono (Kd.R_far (p := ⟨gb422, 4, none⟩) (Kd.R_types HO439.out BK422.out (by decide)) (fun _ hk => hk.2) (.slice Ao114 t435.length co114)) (fun _ h_ => h_.1)))); (case side2 => exact (Kd.R_reads' HO439.out).2.1); (case side3 => exact Tabs.below HT.out (bwA)); rintro e w116 ⟨rfl, hb⟩; refine ⟨_, rfl, ?_⟩; replace HO425 := Aside0.mk (Kd.R_below (raA (Kd.R_mono (Kd.R_far (p := ⟨gb422, 4, none⟩) (Kd.R_types HO425.out BK422.out (by decide)) (fun _ hk => hk.2) (.slice Ao114 t435.length co114)) (fun _ h_ => h_.1))) hb); replace HO430 := Aside0.mk (Kd.R_below (raA (Kd.R_mono (Kd.R_far (p := ⟨gb422, 4, none⟩) (Kd.R_types HO430.out BK422.out (by decide)) (fun _ hk => hk.2) (.slice Ao114 t435.length co114)) (fun _ h_ => h_.1))) hb); replace HO439 := Aside0.mk (Kd.R_below (raA (Kd.R_mono (Kd.R_far (p := ⟨gb422, 4, none⟩) (Kd.R_types HO439.out BK422.out (by decide)) (fun _ hk => hk.2) (.slice Ao114 t435.length co114)) (fun _ h_ => h_.1))) hb); replace BK422 := Aside0.mk (blk_below (g := gb422) (o := .cells #[.int .i64 ((rd_T147 t426 0).f1), .int .i64 ((rd_T147 t426 1).f1), .int .i64 ((rd_T147 t426 2).f1), .string ((rd_T147 t426 3).f2), .slice Ao114 t435.length co114] 66 (0, 0)) (by refine blkP (cs := #[.int .i64 ((rd_T147 t426 0).f1), .int .i64 ((rd_T147 t426 1).f1), .int .i64 ((rd_T147 t426 2).f1), .string ((rd_T147 t426 3).f2), .slice none 0 0]) ?_ 4 _; (with_reducible repeat (first | refine blk_drewN ?_ _ | refine blk_drew ?_ | refine blk_alloc ?_ _)); exact BK422.out) hb); replace HB := Aside0.mk (below_step (bwA) hb); (try clear hb); have hcz117_0 := celA BK422.out 0 (.int .i64 ((rd_T147 t426 0).f1)); have hcz117_1 := celA BK422.out 1 (.int .i64 ((rd_T147 t426 1).f1)); have hcz117_2 := celA BK422.out 2 (.int .i64 ((rd_T147 t426 2).f1)); have hcz117_3 := celA BK422.out 3 (.string ((rd_T147 t426 3).f2)); have hcz117_4 := celA BK422.out 4 (.slice Ao114 t435.length co114); have hfz117_0 := blk_frozen BK422.out 0; have hfz117_1 := blk_frozen BK422.out 1; have hfz117_2 := blk_frozen BK422.out 2; have hfz117_3 := blk_frozen BK422.out 3; have hfz117_4 := blk_frozen BK422.out 4))
           first
            | clear M3
              refine bodyPost_ret (results_ctt rfl _ _ gb422 66 #[.int .i64 ((rd_T147 t426 0).f1), .int .i64 ((rd_T147 t426 1).f1), .int .i64 ((rd_T147 t426 2).f1), .string ((rd_T147 t426 3).f2), .slice Ao114 t435.length co114] (0, 0) _ rfl (by refine blkP (cs := #[.int .i64 ((rd_T147 t426 0).f1), .int .i64 ((rd_T147 t426 1).f1), .int .i64 ((rd_T147 t426 2).f1), .string ((rd_T147 t426 3).f2), .slice Ao114 t435.length co114]) ?_ 4 _; refine blkP (cs := #[.int .i64 ((rd_T147 t426 0).f1), .int .i64 ((rd_T147 t426 1).f1), .int .i64 ((rd_T147 t426 2).f1), .string ((rd_T147 t426 3).f2), .slice Ao114 t435.length co114]) ?_ 3 _; refine blkP (cs := #[.int .i64 ((rd_T147 t426 0).f1), .int .i64 ((rd_T147 t426 1).f1), .int .i64 ((rd_T147 t426 2).f1), .string ((rd_T147 t426 3).f2), .slice Ao114 t435.length co114]) ?_ 2 _; refine blkP (cs := #[.int .i64 ((rd_T147 t426 0).f1), .int .i64 ((rd_T147 t426 1).f1), .int .i64 ((rd_T147 t426 2).f1), .string ((rd_T147 t426 3).f2), .slice Ao114 t435.length co114]) ?_ 1 _; refine blkP (cs := #[.int .i64 ((rd_T147 t426 0).f1), .int .i64 ((rd_T147 t426 1).f1), .int .i64 ((rd_T147 t426 2).f1), .string ((rd_T147 t426 3).f2), .slice Ao114 t435.length co114]) ?_ 0 _; (with_reducible repeat (first | refine blk_drewN ?_ _ | refine blk_drew ?_ | refine blk_alloc ?_ _)); exact BK422.out) Tryz.underlying66 rfl (by kernel_rfl)) rfl ?_
              exact ⟨_, endA, by (with_reducible repeat (first | apply Kd.R_alloc | apply Kd.R_drewN | apply Kd.R_drew)); exact Kd.R_mono (Kd.R_far (p := ⟨gb422, 4, none⟩) (Kd.R_far (p := ⟨gb422, 3, none⟩) (Kd.R_far (p := ⟨gb422, 2, none⟩) (Kd.R_far (p := ⟨gb422, 1, none⟩) (Kd.R_far (p := ⟨gb422, 0, none⟩) (Kd.R_types HO439.out BK422.out (by decide)) (fun _ hk => hk.2) (.int .i64 ((rd_T147 t426 0).f1))) (fun _ hk => hk.2) (.int .i64 ((rd_T147 t426 1).f1))) (fun _ hk => hk.2) (.int .i64 ((rd_T147 t426 2).f1))) (fun _ hk => hk.2) (.string ((rd_T147 t426 3).f2))) (fun _ hk => hk.2) (.slice Ao114 t435.length co114)) (fun _ hk => trivial), bwA⟩
            | clear M4
              refine bodyPost_ret (results_ctt rfl _ _ gb422 66 #[.int .i64 0, .int .i64 0, .int .i64 0, .string (⟨#[]⟩ : ByteArray), .slice none 0 0] (0, 0) _ rfl (by refine blkP (cs := #[.int .i64 0, .int .i64 0, .int .i64 0, .string (⟨#[]⟩ : ByteArray), .slice Ao114 t435.length co114]) ?_ 4 _; refine blkP (cs := #[.int .i64 0, .int .i64 0, .int .i64 0, .string ((rd_T147 t426 3).f2), .slice Ao114 t435.length co114]) ?_ 3 _; refine blkP (cs := #[.int .i64 0, .int .i64 0, .int .i64 ((rd_T147 t426 2).f1), .string ((rd_T147 t426 3).f2), .slice Ao114 t435.length co114]) ?_ 2 _; refine blkP (cs := #[.int .i64 0, .int .i64 ((rd_T147 t426 1).f1), .int .i64 ((rd_T147 t426 2).f1), .string ((rd_T147 t426 3).f2), .slice Ao114 t435.length co114]) ?_ 1 _; refine blkP (cs := #[.int .i64 ((rd_T147 t426 0).f1), .int .i64 ((rd_T147 t426 1).f1), .int .i64 ((rd_T147 t426 2).f1), .string ((rd_T147 t426 3).f2), .slice Ao114 t435.length co114]) ?_ 0 _; (with_reducible repeat (first | refine blk_drewN ?_ _ | refine blk_drew ?_ | refine blk_alloc ?_ _)); exact BK422.out) Tryz.underlying66 rfl (by kernel_rfl)) rfl ?_
              exact ⟨_, endA, by first | exact Kd.R_nil _ _ _ _ _ | exact Kd.N_nil _ _ _ _ _ | exact Kd.V_nil _ _ _ _ _ | exact Kd.Q_nil _ _ _ _ _ | exact Kd.S_nil _ _ _ _ _, bwA⟩
         | clear M5
           (try go_wp2_with (fail))
           refine bodyPost_ret (results_ctt rfl _ _ gb422 66 #[.int .i64 0, .int .i64 0, .int .i64 0, .string (⟨#[]⟩ : ByteArray), .slice none 0 0] (0, 0) _ rfl (by refine blkP (cs := #[.int .i64 0, .int .i64 0, .int .i64 0, .string (⟨#[]⟩ : ByteArray), .slice Ao114 t435.length co114]) ?_ 4 _; refine blkP (cs := #[.int .i64 0, .int .i64 0, .int .i64 0, .string ((rd_T147 t426 3).f2), .slice Ao114 t435.length co114]) ?_ 3 _; refine blkP (cs := #[.int .i64 0, .int .i64 0, .int .i64 ((rd_T147 t426 2).f1), .string ((rd_T147 t426 3).f2), .slice Ao114 t435.length co114]) ?_ 2 _; refine blkP (cs := #[.int .i64 0, .int .i64 ((rd_T147 t426 1).f1), .int .i64 ((rd_T147 t426 2).f1), .string ((rd_T147 t426 3).f2), .slice Ao114 t435.length co114]) ?_ 1 _; refine blkP (cs := #[.int .i64 ((rd_T147 t426 0).f1), .int .i64 ((rd_T147 t426 1).f1), .int .i64 ((rd_T147 t426 2).f1), .string ((rd_T147 t426 3).f2), .slice Ao114 t435.length co114]) ?_ 0 _; refine blkP (cs := #[.int .i64 ((rd_T147 t426 0).f1), .int .i64 ((rd_T147 t426 1).f1), .int .i64 ((rd_T147 t426 2).f1), .string ((rd_T147 t426 3).f2), .slice none 0 0]) ?_ 4 _; (with_reducible repeat (first | refine blk_drewN ?_ _ | refine blk_drew ?_ | refine blk_alloc ?_ _)); exact BK422.out) Tryz.underlying66 rfl (by kernel_rfl)) rfl ?_
           exact ⟨_, endA, by first | exact Kd.R_nil _ _ _ _ _ | exact Kd.N_nil _ _ _ _ _ | exact Kd.V_nil _ _ _ _ _ | exact Kd.Q_nil _ _ _ _ _ | exact Kd.S_nil _ _ _ _ _, bwA⟩
     | clear M6
       have hcz106_0 := celA BK422.out 0 (.int .i64 0)
       have hcz106_1 := celA BK422.out 1 (.int .i64 0)
       have hcz106_2 := celA BK422.out 2 (.int .i64 0)
       have hcz106_3 := celA BK422.out 3 (.string (⟨#[]⟩ : ByteArray))
       have hcz106_4 := celA BK422.out 4 (.slice none 0 0)
       have hfz106_0 := blk_frozen BK422.out 0
       have hfz106_1 := blk_frozen BK422.out 1
       have hfz106_2 := blk_frozen BK422.out 2
       have hfz106_3 := blk_frozen BK422.out 3
       have hfz106_4 := blk_frozen BK422.out 4
       (try go_wp2_with (fail))
       refine bodyPost_ret (results_ctt rfl _ _ gb422 66 #[.int .i64 0, .int .i64 0, .int .i64 0, .string (⟨#[]⟩ : ByteArray), .slice none 0 0] (0, 0) _ rfl (by refine blkP (cs := #[.int .i64 0, .int .i64 0, .int .i64 0, .string (⟨#[]⟩ : ByteArray), .slice none 0 0]) ?_ 4 _; refine blkP (cs := #[.int .i64 0, .int .i64 0, .int .i64 0, .string (⟨#[]⟩ : ByteArray), .slice none 0 0]) ?_ 3 _; refine blkP (cs := #[.int .i64 0, .int .i64 0, .int .i64 0, .string (⟨#[]⟩ : ByteArray), .slice none 0 0]) ?_ 2 _; refine blkP (cs := #[.int .i64 0, .int .i64 0, .int .i64 0, .string (⟨#[]⟩ : ByteArray), .slice none 0 0]) ?_ 1 _; refine blkP (cs := #[.int .i64 0, .int .i64 0, .int .i64 0, .string (⟨#[]⟩ : ByteArray), .slice none 0 0]) ?_ 0 _; (with_reducible repeat (first | refine blk_drewN ?_ _ | refine blk_drew ?_ | refine blk_alloc ?_ _)); exact BK422.out) Tryz.underlying66 rfl (by kernel_rfl)) rfl ?_
       exact ⟨_, endA, by first | exact Kd.R_nil _ _ _ _ _ | exact Kd.N_nil _ _ _ _ _ | exact Kd.V_nil _ _ _ _ _ | exact Kd.Q_nil _ _ _ _ _ | exact Kd.S_nil _ _ _ _ _, bwA⟩
end Go.Proofs.YtkdndabpaajkaaaGreatDoor.A
