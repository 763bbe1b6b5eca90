-- By drv.py, the session's own driver round the kit's print: the machine's side of the laws, function by function. Not trusted: Lean checks it.
import Derived.Test.YtkdndabpaajkaaaGreatDoorAx0
import Derived.Test.YtkdndabpaajkaaaGreatDoorAx10
import Derived.Test.YtkdndabpaajkaaaGreatDoorAx28
import Derived.Test.YtkdndabpaajkaaaGreatDoorAx29
import Derived.Test.YtkdndabpaajkaaaGreatDoorAx30
namespace Go.Proofs.YtkdndabpaajkaaaGreatDoor.A
open Go.RowKit Go.Proofs.YtkdndabpaajkaaaGreatDoorW.PrintWords Go.Proofs.YtkdndabpaajkaaaGreatDoorW.PrintLast Go.Proofs.YtkdndabpaajkaaaGreatDoorW.PrintMore
attribute [local go_sem] max2_int min2_int max_two min_two max_three min_three max_four min_four   -- for this text's walks alone
set_option linter.unusedVariables false
set_option linter.unusedSimpArgs false

/-! ### schema_ReadAttrs: function 134 -/
def schema_ReadAttrs.l0 : Nat → List (S76) → ByteArray → Int → Int → Option ((List (S76)) × ByteArray × Int)
 | 0, _, _, _, _ => none
 | k + 1, x2, x3, x24, x25 => if x25 < x24 then ((quic_Take.f k x3 (([4] : List Int))).bind fun bt407 => (if bt407.2.2 = 0 then ((value_Read.f k bt407.2.1).bind fun bt412 => (if bt412.2.2.2.2 = 0 then (if 0 < (bt407.1.length : Int) then (if x2.length < 2932031007402 then (schema_ReadAttrs.l0 k (x2 ++ [(⟨(rd_T147 bt407.1 0).f2, (⟨bt412.1, bt412.2.1, bt412.2.2.1⟩ : S74)⟩ : S76)]) bt412.2.2.2.1 x24 (wrap64 (x25 + 1))) else (none)) else (none)) else (some (([] : List (S76)), (⟨#[]⟩ : ByteArray), bt412.2.2.2.2)))) else (some (([] : List (S76)), (⟨#[]⟩ : ByteArray), bt407.2.2)))) else ((schema_Attrs.f k x2).bind fun t403 => (if t403 = true then (some (x2, x3, 0)) else (some (([] : List (S76)), (⟨#[]⟩ : ByteArray), 3))))
def schema_ReadAttrs.f (k : Nat) (a0 : ByteArray) : Option ((List (S76)) × ByteArray × Int) := (quic_Get.f k a0).bind fun bt400 => (if bt400.2.2 = 0 then (if bt400.1 > 24 then (some (([] : List (S76)), (⟨#[]⟩ : ByteArray), 2)) else (schema_ReadAttrs.l0 k ([] : List (S76)) bt400.2.1 bt400.1 0)) else (some (([] : List (S76)), (⟨#[]⟩ : ByteArray), bt400.2.2)))
theorem schema_ReadAttrs.mono_l : ∀ k, (∀ y0 y1 y2 y3, LeO (schema_ReadAttrs.l0 k y0 y1 y2 y3) (schema_ReadAttrs.l0 (k + 1) y0 y1 y2 y3))
 | 0 => fun _ _ _ _ r h => by simp [schema_ReadAttrs.l0] at h
 | k + 1 => by
  have ih0 := schema_ReadAttrs.mono_l k
  ·intro y0 y1 y2 y3
   unfold schema_ReadAttrs.l0
   repeat' (with_reducible first | exact ih0 _ _ _ _ | exact quic_Get.mono _ _ | exact quic_Take.mono _ _ _ | exact schema_Attrs.mono _ _ | exact value_Read.mono _ _ | exact LeO.refl _ | exact LeO.none _ | refine LeO.ite ?_ ?_ | refine LeO.bind ?_ (fun _ => ?_))
theorem schema_ReadAttrs.mono : ∀ a0 k, LeO (schema_ReadAttrs.f k a0) (schema_ReadAttrs.f (k + 1) a0) := by
 intro a0 k
 have ih0 := schema_ReadAttrs.mono_l k
 unfold schema_ReadAttrs.f
 repeat' (with_reducible first | exact ih0 _ _ _ _ | exact quic_Get.mono _ _ | exact quic_Take.mono _ _ _ | exact schema_Attrs.mono _ _ | exact value_Read.mono _ _ | exact LeO.refl _ | exact LeO.none _ | refine LeO.ite ?_ ?_ | refine LeO.bind ?_ (fun _ => ?_))
def schema_ReadAttrs.T14 : Bool × List (List Nat × List Nat) := (true, [([], []), ([], []), ([1], [1]), ([2], [2]), ([3], [3]), ([], []), ([4, 5], [4, 5]), ([6], [6]), ([0, 7], [0, 7]), ([], []), ([8, 8, 0, 1, 2, 3, 4, 5, 6, 7, 8], [0, 8]), ([9, 10, 0, 1, 2, 3, 4, 5, 6, 7, 8, 9, 10], [9])])
def schema_ReadAttrs.B14 : List Nat := [0, 0, 2, 6, 14, 0, 62, 126, 255, 0, 511, 2047]
theorem schema_ReadAttrs.tab14 : rtab .any (opsOf Tryz.f134 14) = schema_ReadAttrs.T14 := by kernel_rfl
theorem schema_ReadAttrs.bits14 : waitsOk schema_ReadAttrs.T14.2 schema_ReadAttrs.B14 = true := by kernel_rfl
set_option maxHeartbeats 8000000 in
set_option maxRecDepth 100000 in
theorem schema_ReadAttrs.calls (k : Nat) (a0 : ByteArray) (r1 : List (S76)) (r2 : ByteArray) (r3 : Int) (w : World) (hT : Tabs w) (h : schema_ReadAttrs.f k a0 = some (r1, r2, r3)) :
  Calls Tryz.prog 134 #[.string a0] w fun e w' => ∃ v0_ : Value, e = .returned (.tuple #[v0_, .string r2, .int .i64 r3]) ∧ Kd.R k76 76 w' w.heap.size (fun _ => True) v0_ r1 ∧ Below w.heap.size w w' := by
 have hu74 := Tryz.underlying74
 have hu76 := Tryz.underlying76
 have HB := Aside0.mk (Below.refl w.heap.size w)
 unfold schema_ReadAttrs.f at h
 have H := h
 clear h
 have HT := Aside0.mk hT
 clear hT
 replace H := Option.bind_eq_some_iff.mp H
 obtain ⟨⟨t400, t401, t402⟩, A20, H⟩ := H
 replace H : (if t402 = 0 then (if t400 > 24 then (some (([] : List (S76)), (⟨#[]⟩ : ByteArray), 2)) else (schema_ReadAttrs.l0 k ([] : List (S76)) t401 t400 0)) else (some (([] : List (S76)), (⟨#[]⟩ : ByteArray), t402))) = some (r1, r2, r3) := H
 have A2 := Aside0.mk A20
 clear A20
 revert H; refine itR ?L15p ?L15n
 case' L15p =>
  intro c3 H
  obtain ⟨c3b0, c3b1⟩ := fcE c3
  clear c3
  revert H; refine itR ?L16p ?L16n
  case' L16p =>
   intro c4 H
   have c4b0 := gtT c4
   clear c4
   simp only [Option.some.injEq, Prod.mk.injEq] at H
   obtain ⟨rfl, rfl, rfl⟩ := H
   have M13 := True.intro
  case' L16n =>
   intro c4 H
   have c4b0 := gtF c4
   clear c4
   have H' := Aside0.mk H
   clear H
   have M14 := True.intro
 case' L15n =>
  intro c3 H
  obtain ⟨c3b0, c3b1⟩ := fcN c3
  simp only [Option.some.injEq, Prod.mk.injEq] at H
  obtain ⟨rfl, rfl, rfl⟩ := H
  have M13 := True.intro
 all_goals
  case _ =>
   go_enter Tryz.func134, Tryz.ntmps134
   try go_wp2_with (first | ((with_reducible refine gate_callee (f := 108) rfl ?_); refine goesA (some 13) Tryz.func108 #[.string a0] ?_; (with_reducible refine (quic_Get.calls _ _ _ _ _ _ A2.out).mono ?_); rintro e w' ⟨rfl, ⟨nd, rfl⟩⟩; refine ⟨_, rfl, ?_⟩))
   first
    | clear M13
      go_ret3
      exact ⟨_, endA, by first | exact Kd.R_nil _ _ _ _ _ | exact Kd.N_nil _ _ _ _ _ | exact Kd.V_nil _ _ _ _ _ | exact Kd.Q_nil _ _ _ _ _ | exact Kd.S_nil _ _ _ _ _, bwA⟩
    | clear M14
      go_loopg [2, 3, 25] k (fun kq v2 v3 v25 w' => ∃ (x2_1 : List (S76)) (x3_1 : ByteArray) (x25_1 : Int), v3 = .string x3_1 ∧ v25 = .int .i64 x25_1 ∧ Aside0 (schema_ReadAttrs.l0 kq x2_1 x3_1 t400 x25_1 = some (r1, r2, r3)) ∧ Aside0 (kq ≤ k) ∧ Aside0 (Kd.R k76 76 w' w.heap.size (fun _ => True) v2 x2_1) ∧ Aside0 (Below w.heap.size w w'))
      case atStart => exact ⟨(([] : List (S76))), (t401), (0), (endS), (endS), H', ⟨Nat.le_refl _⟩, ⟨by first | exact Kd.R_nil _ _ _ _ _ | exact Kd.N_nil _ _ _ _ _ | exact Kd.V_nil _ _ _ _ _ | exact Kd.Q_nil _ _ _ _ _ | exact Kd.S_nil _ _ _ _ _⟩, ⟨bwA⟩⟩
      case round =>
       clear H'
       try clear c1
       try clear p2
       try clear c3
       try clear c3b0
       try clear c3b1
       try clear c4
       try clear c4b0
       try clear c10
       try clear c13
       obtain ⟨x2_1, x3_1, x25_1, rfl, rfl, HA, HK1, HO_2, HB⟩ := hrel
       cases gk with
       | zero => exact absurd HA.out (by simp [schema_ReadAttrs.l0])
       | succ k1 =>
        have H := HA.out
        clear HA
        simp only [schema_ReadAttrs.l0] at H
        revert H; refine itR ?L9p ?L9n
        case' L9p =>
         intro c101 H
         have c101b0 := decide_eq_true c101
         clear c101
         obtain ⟨y404, hy404⟩ : ∃ y_ : List Int, y_ = (([4] : List Int)) := ⟨_, rfl⟩
         replace H : ((quic_Take.f k1 x3_1 y404).bind fun bt407 => (if bt407.2.2 = 0 then ((value_Read.f k1 bt407.2.1).bind fun bt412 => (if bt412.2.2.2.2 = 0 then (if 0 < (bt407.1.length : Int) then (if x2_1.length < 2932031007402 then (schema_ReadAttrs.l0 k1 (x2_1 ++ [(⟨(rd_T147 bt407.1 0).f2, (⟨bt412.1, bt412.2.1, bt412.2.2.1⟩ : S74)⟩ : S76)]) bt412.2.2.2.1 t400 (wrap64 (x25_1 + 1))) else (none)) else (none)) else (some (([] : List (S76)), (⟨#[]⟩ : ByteArray), bt412.2.2.2.2)))) else (some (([] : List (S76)), (⟨#[]⟩ : ByteArray), bt407.2.2)))) = some (r1, r2, r3) := by first | (rw [hy404]; with_reducible exact H) | (have H2_ := (Option.bind_some _ _).symm.trans H; rw [hy404]; with_reducible exact H2_) | (have H2_ := (Option.bind_some _ _).symm.trans H; with_reducible exact H2_) | with_reducible exact H | (rw [hy404]; exact H) | exact H
         have Ny404 := Aside0.mk hy404
         clear hy404
         replace H := bnA H
         obtain ⟨⟨t407, t408, t409⟩, A102, H⟩ := H
         dsimp only at H
         revert H; refine itR ?L10p ?L10n
         case' L10p =>
          intro c103 H
          obtain ⟨c103b0, c103b1⟩ := fcE c103
          clear c103
          replace H := bnA H
          obtain ⟨⟨t412, t413, t414, t415, t416⟩, A104, H⟩ := H
          dsimp only at H
          revert H; refine itR ?L11p ?L11n
          case' L11p =>
           intro c105 H
           obtain ⟨c105b0, c105b1⟩ := fcE c105
           clear c105
           replace H := itN H
           obtain ⟨c106, H⟩ := H
           have c106b0 := decide_eq_true c106
           have c106b1 : decide (0 < t407.length) = true := decide_eq_true (by omega)
           clear c106
           replace H := itN H
           obtain ⟨c107, H⟩ := H
           have LMc107 := Aside0.mk c107
           clear c107
           obtain ⟨y419, hy419⟩ : ∃ y_ : List (S76), y_ = (x2_1 ++ [(⟨(rd_T147 t407 0).f2, (⟨t412, t413, t414⟩ : S74)⟩ : S76)]) := ⟨_, rfl⟩
           replace H : (schema_ReadAttrs.l0 k1 y419 t415 t400 (wrap64 (x25_1 + 1))) = some (r1, r2, r3) := by first | (rw [hy419]; with_reducible exact H) | (have H2_ := (Option.bind_some _ _).symm.trans H; rw [hy419]; with_reducible exact H2_) | (have H2_ := (Option.bind_some _ _).symm.trans H; with_reducible exact H2_) | with_reducible exact H | (rw [hy419]; exact H) | exact H
           have Ny419 := Aside0.mk hy419
           clear hy419
           have H' := Aside0.mk H
           clear H
           have M1 := True.intro
           have M2 := True.intro
           have M3 := True.intro
          case' L11n =>
           intro c105 H
           obtain ⟨c105b0, c105b1⟩ := fcN c105
           simp only [Option.some.injEq, Prod.mk.injEq] at H
           obtain ⟨rfl, rfl, rfl⟩ := H
           have M1 := True.intro
           have M2 := True.intro
           have M4 := True.intro
         case' L10n =>
          intro c103 H
          obtain ⟨c103b0, c103b1⟩ := fcN c103
          simp only [Option.some.injEq, Prod.mk.injEq] at H
          obtain ⟨rfl, rfl, rfl⟩ := H
          have M1 := True.intro
          have M5 := True.intro
        case' L9n =>
         intro c101 H
         have c101b0 := decide_eq_false c101
         clear c101
         replace H := bnA H
         obtain ⟨t403, A102, H⟩ := H
         revert H; refine itR ?L12p ?L12n
         case' L12p =>
          intro c103 H
          subst c103
          simp only [Option.some.injEq, Prod.mk.injEq] at H
          obtain ⟨rfl, rfl, rfl⟩ := H
          have M6 := True.intro
          have M7 := True.intro
         case' L12n =>
          intro c103 H
          replace c103 := Bool.eq_false_iff.mpr c103
          subst c103
          simp only [Option.some.injEq, Prod.mk.injEq] at H
          obtain ⟨rfl, rfl, rfl⟩ := H
          have M6 := True.intro
          have M8 := True.intro
        all_goals
         case _ =>
          first
           | clear M1
             go_wp2_with (first | ((with_reducible refine gate_dst (N := 29) rfl ?_); refine Kd.R_lit (Kd.int .i64) _ 3 ?hg (N := 29) ?hd (xs := ([4] : List Int)) (inner := [.int .i64 4]) (ok := fun _ => True) (okp := fun _ => True) ?hr ?hp (fun _ hk => hk) trivial (Below.refl _ _) (Nat.le_refl _) (by simp) ?_; (case hd => rfl); (case hg => rfl); (case hr => first | (go_simp; done) | (go_simp; rfl)); (case hp => exact (Reps.one (show Kd.M (Kd.int .i64) _ _ _ 4 [.int .i64 4] from rfl) (Reps.none _ _))); intro v405 w201 ho202 hb hg_ hnew_; clear hg_ hnew_; (first | rw [← Ny404.out] at ho202 | (simp only [Int.reduceToNat] at ho202; rw [← Ny404.out] at ho202)); have HO406 := Aside0.mk (Kd.R_lower ho202 (below_size (bwA))); replace HO_2 := Aside0.mk (Kd.R_below (raA HO_2.out) hb); replace HB := Aside0.mk (below_step (bwA) hb); clear hb ho202; obtain ⟨Ao203, co203, eo203⟩ := Kd.R_slice HO406.out; subst eo203) | ((with_reducible refine gate_callee (f := 99) rfl ?_); refine goesA (some 30) Tryz.func99 #[.string x3_1, .slice Ao203 y404.length co203] ?_; (with_reducible refine (quic_Take.calls _ _ _ _ _ _ _ _ _ ?side1 ?side2 A102.out).mono ?_); (case side1 => repeat (first | exact (Kd.R_reads' HO406.out).2.2 | (with_reducible refine Kd.C_alloc ?_ _) | (with_reducible refine Kd.C_drewN ?_ _) | (with_reducible refine Kd.C_drew ?_))); (case side2 => exact (Kd.R_reads' HO406.out).2.1); rintro e w204 ⟨v410, rfl, ho0, hb⟩; refine ⟨_, rfl, ?_⟩; have HO411 := Aside0.mk (Kd.R_lower ho0 (below_size (bwA))); replace HO_2 := Aside0.mk (Kd.R_below (raA HO_2.out) hb); replace HO406 := Aside0.mk (Kd.R_below (raA HO406.out) hb); replace HB := Aside0.mk (below_step (bwA) hb); (try clear hb); (try clear ho0); apply stopA; (case other => exact True.intro)))
             case _ =>
              first
               | clear M2
                 try go_wp2_with (first | ((with_reducible refine gate_callee (f := 195) rfl ?_); refine goesA (some 39) Tryz.func195 #[.string t408] ?_; (with_reducible refine (value_Read.calls _ _ _ _ _ _ _ _ ?side1 A104.out).mono ?_); (case side1 => exact Tabs.below HT.out (bwA)); rintro e w205 ⟨rfl, hb⟩; refine ⟨_, rfl, ?_⟩; replace HO_2 := Aside0.mk (Kd.R_below (raA HO_2.out) hb); replace HO406 := Aside0.mk (Kd.R_below (raA HO406.out) hb); replace HO411 := Aside0.mk (Kd.R_below (raA HO411.out) hb); replace HB := Aside0.mk (below_step (bwA) hb); (try clear hb)) | ((with_reducible refine gate_dst (N := 9) rfl ?_); refine boxA 9 #[.int .i64 0, .int .i64 0, .string (⟨#[]⟩ : ByteArray)] 74 ?_; intro gb417 hg w206 hbox hb; have BK417 := Aside0.mk (hbox); have GW417 := Aside0.mk (hgW hg : w.heap.size ≤ gb417); have GE417 := Aside0.mk (hgW hg : w.heap.size ≤ gb417); replace HO_2 := Aside0.mk (Kd.R_below (raA HO_2.out) hb); replace HO406 := Aside0.mk (Kd.R_below (raA HO406.out) hb); replace HO411 := Aside0.mk (Kd.R_below (raA HO411.out) hb); replace HB := Aside0.mk (below_step (bwA) hb); clear hb hbox hg; have hcz207_0 := celA BK417.out 0 (.int .i64 0); have hcz207_1 := celA BK417.out 1 (.int .i64 0); have hcz207_2 := celA BK417.out 2 (.string (⟨#[]⟩ : ByteArray)); have hfz207_0 := blk_frozen BK417.out 0; have hfz207_1 := blk_frozen BK417.out 1; have hfz207_2 := blk_frozen BK417.out 2))
                 first
                  | clear M3
                    have n0_ : Aside0 (Kd.R k76 76 (((w206.setCell ⟨gb417, 0, none⟩ (.int .i64 t412)).setCell ⟨gb417, 1, none⟩ (.int .i64 t413)).setCell ⟨gb417, 2, none⟩ (.string t414)) w.heap.size (fun _ => True) u2 x2_1) := ⟨by (with_reducible repeat (first | apply Kd.R_alloc | apply Kd.R_drewN | apply Kd.R_drew)); exact Kd.R_mono (Kd.R_far (p := ⟨gb417, 2, none⟩) (Kd.R_far (p := ⟨gb417, 1, none⟩) (Kd.R_far (p := ⟨gb417, 0, none⟩) (Kd.R_types HO_2.out BK417.out (by decide)) (fun _ hk => hk.2) (.int .i64 t412)) (fun _ hk => hk.2) (.int .i64 t413)) (fun _ hk => hk.2) (.string t414)) (fun _ hk => trivial)⟩
                    have n1_ : Aside0 (Kd.R (Kd.int .i64) 3 (((w206.setCell ⟨gb417, 0, none⟩ (.int .i64 t412)).setCell ⟨gb417, 1, none⟩ (.int .i64 t413)).setCell ⟨gb417, 2, none⟩ (.string t414)) w.heap.size (fun _ => True) (.slice Ao203 y404.length co203) y404) := ⟨by (with_reducible repeat (first | apply Kd.R_alloc | apply Kd.R_drewN | apply Kd.R_drew)); exact Kd.R_mono (Kd.R_far (p := ⟨gb417, 2, none⟩) (Kd.R_far (p := ⟨gb417, 1, none⟩) (Kd.R_far (p := ⟨gb417, 0, none⟩) (Kd.R_types HO406.out BK417.out (by decide)) (fun _ hk => hk.2) (.int .i64 t412)) (fun _ hk => hk.2) (.int .i64 t413)) (fun _ hk => hk.2) (.string t414)) (fun _ hk => trivial)⟩
                    have n2_ : Aside0 (Kd.R k147 147 (((w206.setCell ⟨gb417, 0, none⟩ (.int .i64 t412)).setCell ⟨gb417, 1, none⟩ (.int .i64 t413)).setCell ⟨gb417, 2, none⟩ (.string t414)) w.heap.size (fun _ => True) v410 t407) := ⟨by (with_reducible repeat (first | apply Kd.R_alloc | apply Kd.R_drewN | apply Kd.R_drew)); exact Kd.R_mono (Kd.R_far (p := ⟨gb417, 2, none⟩) (Kd.R_far (p := ⟨gb417, 1, none⟩) (Kd.R_far (p := ⟨gb417, 0, none⟩) (Kd.R_types HO411.out BK417.out (by decide)) (fun _ hk => hk.2) (.int .i64 t412)) (fun _ hk => hk.2) (.int .i64 t413)) (fun _ hk => hk.2) (.string t414)) (fun _ hk => trivial)⟩
                    have n3_ : Aside0 ((((w206.setCell ⟨gb417, 0, none⟩ (.int .i64 t412)).setCell ⟨gb417, 1, none⟩ (.int .i64 t413)).setCell ⟨gb417, 2, none⟩ (.string t414)).heap[gb417]? = some (.cells #[.int .i64 t412, .int .i64 t413, .string t414] 74 (0, 0))) := ⟨by refine blkP (cs := #[.int .i64 t412, .int .i64 t413, .string (⟨#[]⟩ : ByteArray)]) ?_ 2 _; refine blkP (cs := #[.int .i64 t412, .int .i64 0, .string (⟨#[]⟩ : ByteArray)]) ?_ 1 _; refine blkP (cs := #[.int .i64 0, .int .i64 0, .string (⟨#[]⟩ : ByteArray)]) ?_ 0 _; (with_reducible repeat (first | refine blk_drewN ?_ _ | refine blk_drew ?_ | refine blk_alloc ?_ _)); exact BK417.out⟩
                    have n4_ : Aside0 (Below w.heap.size w (((w206.setCell ⟨gb417, 0, none⟩ (.int .i64 t412)).setCell ⟨gb417, 1, none⟩ (.int .i64 t413)).setCell ⟨gb417, 2, none⟩ (.string t414))) := ⟨bwA⟩
                    (try clear HO_2)
                    (try clear HO406)
                    (try clear HO411)
                    (try clear BK417)
                    (try clear HB)
                    generalize (((w206.setCell ⟨gb417, 0, none⟩ (.int .i64 t412)).setCell ⟨gb417, 1, none⟩ (.int .i64 t413)).setCell ⟨gb417, 2, none⟩ (.string t414)) = w208 at n0_ n1_ n2_ n3_ n4_ ⊢
                    have HO_2 := n0_
                    have HO406 := n1_
                    have HO411 := n2_
                    have BK417 := n3_
                    have HB := n4_
                    clear n0_ n1_ n2_ n3_ n4_
                    replace HO_2 := Aside0.mk (Kd.R_drew HO_2.out)
                    replace HO406 := Aside0.mk (Kd.R_drew HO406.out)
                    replace HO411 := Aside0.mk (Kd.R_drew HO411.out)
                    replace BK417 := Aside0.mk (blk_drew BK417.out)
                    replace HB := Aside0.mk (below_drew1 HB.out)
                    obtain ⟨Ao210, co210, eo210⟩ := Kd.R_slice HO411.out
                    (first | subst eo210 | (injection eo210 with f1_ f2_ f3_; have f4_ := f1_.symm; have f5_ := f3_.symm; clear f1_ f2_ f3_; subst f4_; subst f5_))
                    have p418 : 0 ≤ (0 : Int) := (by omega)
                    have q418 : 0 < (t407.length : Int) := odA
                    obtain ⟨ad418, e418, hx418_0, hx418_1, hx418_2⟩ := at_T147 (Kd.R_reads' HO411.out).2.2 0 p418 q418
                    cases e418
                    have qi418 : (0 < t407.length) = True := eq_true (by omega)
                    (try rw [show ((0 : Int)).toNat = 0 from rfl] at hx418_0)
                    (try rw [show 0 * 3 = 0 from rfl] at hx418_0)
                    (try rw [Addr.add_zero'] at hx418_0)
                    (try rw [show ((0 : Int)).toNat = 0 from rfl] at hx418_1)
                    (try rw [show 0 * 3 = 0 from rfl] at hx418_1)
                    (try rw [Addr.add_zero'] at hx418_1)
                    (try rw [show ((0 : Int)).toNat = 0 from rfl] at hx418_2)
                    (try rw [show 0 * 3 = 0 from rfl] at hx418_2)
                    (try rw [Addr.add_zero'] at hx418_2)
                    replace p418 := eq_true p418
                    replace q418 := eq_true q418
                    refine start_ (n := 12) (S := fun w' => w'.cell? ⟨gb417, 0, none⟩ = some (.int .i64 t412) ∧ w'.cell? ⟨gb417, 1, none⟩ = some (.int .i64 t413) ∧ w'.cell? ⟨gb417, 2, none⟩ = some (.string t414) ∧ w'.cell? ad418 = some (.int .i64 ((rd_T147 t407 0).f0)) ∧ w'.cell? ⟨ad418.block, ad418.off + 1, none⟩ = some (.int .i64 ((rd_T147 t407 0).f1)) ∧ w'.cell? ⟨ad418.block, ad418.off + 2, none⟩ = some (.string ((rd_T147 t407 0).f2))) (ds := [7, 8]) (mkB 12 0) (by kernel_rfl) rfl rfl ⟨(blk_cell BK417.out 0).trans rfl, (blk_cell BK417.out 1).trans rfl, (blk_cell BK417.out 2).trans rfl, hx418_0, hx418_1, hx418_2⟩ (fun hHeld => ?_); refine with_tabW schema_ReadAttrs.tab14 schema_ReadAttrs.bits14 (fun HT_ HW_ => ?_)
                    generalize w208.drew = w209 at HO_2 HO406 HO411 BK417 HB hx418_0 hx418_1 hx418_2 hHeld ⊢
                    refine pureA 0 (some 46) (mkB 12 1) ?_
                    refine pureA 1 (some 47) (mkB 12 3) ?_
                    refine pureA 2 (some 48) (mkB 12 7) ?_
                    refine pureA 3 (some 49) (mkB 12 15) ?_
                    refine pureA 9 (some 55) (mkB 12 527) ?_
                    refine takeA 4 (some 50) (mkB 12 543) ?_ rfl (Or.inl ⟨by rfl, by rintro w' ⟨s0, s1, s2, s3, s4, s5⟩; go_simp; with_reducible rfl⟩)
                    refine takeA 5 (some 51) (mkB 12 575) ?_ rfl (Or.inl ⟨by rfl, by rintro w' ⟨s0, s1, s2, s3, s4, s5⟩; go_simp; with_reducible rfl⟩)
                    refine pureA 6 (some 52) (mkB 12 639) ?_
                    refine last_ (i := 7) (N := some 53) (mkB 12 767) rfl rfl (one_of HT_.out (by kernel_rfl)) (by decide) (fun K hK => ?_)
                    refine value_ (w1 := ?_) (v := ?_) (by rfl) rfl ?_ ?_
                    rotate_left 2
                    ·go_simp
                     constructor
                     ·rfl
                     ·rfl
                    refine hK.out _ _ ?_
                    clear hK K
                    refine normA ?_
                    refine last_ (i := 8) (N := some 54) (mkB 12 1023) rfl rfl (one_of HT_.out (by kernel_rfl)) (by decide) (fun K hK => ?_)
                    refine Kd.R_append_step k76 (w0 := w) w.heap.size (by rfl) (.tmp 46) (.tmp 53) 64 76 (.agg #[(.string ⟨#[]⟩), (.int .i64 0), (.int .i64 0), (.string ⟨#[]⟩)]) 48 rfl Tryz.underlying64 info76 rfl (by decide) (by omega) u2 x2_1 (⟨(rd_T147 t407 0).f2, (⟨t412, t413, t414⟩ : S74)⟩ : S76) [.string ((rd_T147 t407 0).f2), .int .i64 t412, .int .i64 t413, .string t414] (fun _ => True) (fun _ => False) rfl rfl ?aP (fun _ hk => hk.elim) ?aF ?aO ?aB ?aS ?aL ?_
                    (case aP => exact k76_mkM _ _ _ (⟨(rd_T147 t407 0).f2, (⟨t412, t413, t414⟩ : S74)⟩ : S76))
                    (case aB => exact (bwA))
                    (case aF => exact (fun _ _ => trivial))
                    (case aO => exact (raA HO_2.out))
                    (case aS => exact (below_size (bwA)))
                    (case aL => have := LMc107.out; omega)
                    intro v420 w211 ho hb hg hat
                    rw [← Ny419.out] at ho
                    have n0_ := Aside0.mk (Kd.R_over' (raA HO406.out) (Kd.R_typed (raA HO_2.out)) (by decide) hg)
                    have n1_ := Aside0.mk (Kd.R_over' (raA HO411.out) (Kd.R_typed (raA HO_2.out)) (by decide) hg)
                    have n2_ := Aside0.mk (blk_grown (g := gb417) (o := .cells #[.int .i64 t412, .int .i64 t413, .string t414] 74 (0, 0)) blkA hg (Kd.R_ne HO_2.out BK417.out (by decide)))
                    have n3_ := Aside0.mk (hb)
                    have n4_ := Aside0.mk (ho)
                    clear HO406
                    clear HO411
                    clear BK417
                    clear HB
                    clear HO_2
                    have HO406 := n0_
                    have HO411 := n1_
                    have BK417 := n2_
                    have HB := n3_
                    have HO421 := n4_
                    clear n0_ n1_ n2_ n3_ n4_
                    clear ho hb hg hat
                    refine hK.out _ _ ?_
                    clear hK K
                    refine normA ?_
                    refine pureA 10 (some 2) (mkB 12 2047) ?_
                    refine pureA 11 (some 3) (mkB 12 4095) ?_
                    refine done_ (done_of HT_.out (by kernel_rfl)) ?_
                    try go_wp2
                    go_roundg k1
                    case measure => have := HK1.out; omega
                    case rel => exact ⟨(y419), (t415), (wrap64 (x25_1 + 1)), (endS), (endS), H', ⟨by have := HK1.out; omega⟩, ⟨by (with_reducible repeat (first | apply Kd.R_alloc | apply Kd.R_drewN | apply Kd.R_drew)); exact HO421.out⟩, ⟨bwA⟩⟩
                  | clear M4
                    go_ret3
                    exact ⟨_, endA, by first | exact Kd.R_nil _ _ _ _ _ | exact Kd.N_nil _ _ _ _ _ | exact Kd.V_nil _ _ _ _ _ | exact Kd.Q_nil _ _ _ _ _ | exact Kd.S_nil _ _ _ _ _, bwA⟩
               | clear M5
                 (try go_wp2_with (fail))
                 go_ret3
                 exact ⟨_, endA, by first | exact Kd.R_nil _ _ _ _ _ | exact Kd.N_nil _ _ _ _ _ | exact Kd.V_nil _ _ _ _ _ | exact Kd.Q_nil _ _ _ _ _ | exact Kd.S_nil _ _ _ _ _, bwA⟩
           | clear M6
             obtain ⟨Ao201, co201, eo201⟩ := Kd.R_slice HO_2.out
             subst eo201
             try go_wp2_with (first | ((with_reducible refine gate_callee (f := 111) rfl ?_); refine goesA (some 58) Tryz.func111 #[.slice Ao201 x2_1.length co201] ?_; (with_reducible refine (schema_Attrs.calls _ _ _ _ _ _ ?side1 ?side2 ?side3 A102.out).mono ?_); (case side1 => repeat (first | exact (Kd.R_reads' HO_2.out).2.2 | (with_reducible refine Kd.C_alloc ?_ _) | (with_reducible refine Kd.C_drewN ?_ _) | (with_reducible refine Kd.C_drew ?_))); (case side2 => exact (Kd.R_reads' HO_2.out).2.1); (case side3 => exact Tabs.below HT.out (bwA)); rintro e w202 ⟨rfl, hb⟩; refine ⟨_, rfl, ?_⟩; replace HO_2 := Aside0.mk (Kd.R_below (raA HO_2.out) hb); replace HB := Aside0.mk (below_step (bwA) hb); (try clear hb)))
             go_ret3
             first
              | clear M7
                exact ⟨_, endA, by (with_reducible repeat (first | apply Kd.R_alloc | apply Kd.R_drewN | apply Kd.R_drew)); exact HO_2.out, bwA⟩
              | clear M8
                exact ⟨_, endA, by first | exact Kd.R_nil _ _ _ _ _ | exact Kd.N_nil _ _ _ _ _ | exact Kd.V_nil _ _ _ _ _ | exact Kd.Q_nil _ _ _ _ _ | exact Kd.S_nil _ _ _ _ _, bwA⟩
end Go.Proofs.YtkdndabpaajkaaaGreatDoor.A
