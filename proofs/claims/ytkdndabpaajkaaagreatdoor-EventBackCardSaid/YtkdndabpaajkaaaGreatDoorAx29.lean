-- By drv.py, the session's own driver round the kit's print: the machine's side of the laws, function by function. Not trusted: Lean checks it.
import Derived.Test.YtkdndabpaajkaaaGreatDoorAx0
import Derived.Test.YtkdndabpaajkaaaGreatDoorAx28
namespace Go.Proofs.YtkdndabpaajkaaaGreatDoor.A
open Go.RowKit Go.Proofs.YtkdndabpaajkaaaGreatDoorW.PrintWords Go.Proofs.YtkdndabpaajkaaaGreatDoorW.PrintLast Go.Proofs.YtkdndabpaajkaaaGreatDoorW.PrintMore
attribute [local go_sem] max2_int min2_int max_two min_two max_three min_three max_four min_four   -- for this text's walks alone
set_option linter.unusedVariables false
set_option linter.unusedSimpArgs false

/-! ### quic_Take: function 99 -/
mutual
def quic_Take.l0 : Nat → ByteArray → List Int → List (S147) → List Int → Int → Int → Option ((List (S147)) × ByteArray × Int)
 | 0, _, _, _, _, _, _ => none
 | k + 1, x0, x1, x4, x17, x18, x19 => if x19 < x18 then (if 0 ≤ x19 then (if x19 < (x17.length : Int) then (if (rd x17 x19) < 1 then (some (([] : List (S147)), (⟨#[]⟩ : ByteArray), 1)) else (if (rd x17 x19) > 4 then (some (([] : List (S147)), (⟨#[]⟩ : ByteArray), 1)) else (quic_Take.l0 k x0 x1 x4 x17 x18 (wrap64 (x19 + 1))))) else (none)) else (none)) else (quic_Take.l1 k x0 x4 x1 (x1.length : Int) 0)
def quic_Take.l1 : Nat → ByteArray → List (S147) → List Int → Int → Int → Option ((List (S147)) × ByteArray × Int)
 | 0, _, _, _, _, _ => none
 | k + 1, x0, x4, x30, x31, x32 => if x32 < x31 then (if 0 ≤ x32 then (if x32 < (x30.length : Int) then ((quic_take.f k x0 (rd x30 x32)).bind fun bt374 => (if bt374.2.2.2.2 = 0 then (if x4.length < 4398046511104 then (quic_Take.l1 k bt374.2.2.2.1 (x4 ++ [(⟨bt374.1, bt374.2.1, bt374.2.2.1⟩ : S147)]) x30 x31 (wrap64 (x32 + 1))) else (none)) else (some (([] : List (S147)), (⟨#[]⟩ : ByteArray), bt374.2.2.2.2)))) else (none)) else (none)) else (some (x4, x0, 0))
end
def quic_Take.f (k : Nat) (a0 : ByteArray) (l1 : List Int) : Option ((List (S147)) × ByteArray × Int) := if (l1.length : Int) > 4096 then (some (([] : List (S147)), (⟨#[]⟩ : ByteArray), 2)) else (quic_Take.l0 k a0 l1 ([] : List (S147)) l1 (l1.length : Int) 0)
theorem quic_Take.mono_l : ∀ k, (∀ y0 y1 y2 y3 y4 y5, LeO (quic_Take.l0 k y0 y1 y2 y3 y4 y5) (quic_Take.l0 (k + 1) y0 y1 y2 y3 y4 y5)) ∧ (∀ y0 y1 y2 y3 y4, LeO (quic_Take.l1 k y0 y1 y2 y3 y4) (quic_Take.l1 (k + 1) y0 y1 y2 y3 y4))
 | 0 => ⟨fun _ _ _ _ _ _ r h => by simp [quic_Take.l0] at h, fun _ _ _ _ _ r h => by simp [quic_Take.l1] at h⟩
 | k + 1 => by
  obtain ⟨ih0, ih1⟩ := quic_Take.mono_l k
  refine ⟨?_, ?_⟩
  all_goals intros
  all_goals first | unfold quic_Take.l0 | unfold quic_Take.l1
  all_goals repeat' (with_reducible first | exact ih0 _ _ _ _ _ _ | exact ih1 _ _ _ _ _ | exact quic_take.mono _ _ _ | exact LeO.refl _ | exact LeO.none _ | refine LeO.ite ?_ ?_ | refine LeO.bind ?_ (fun _ => ?_))
theorem quic_Take.mono : ∀ a0 a1 k, LeO (quic_Take.f k a0 a1) (quic_Take.f (k + 1) a0 a1) := by
 intro a0 a1 k
 obtain ⟨ih0, ih1⟩ := quic_Take.mono_l k
 unfold quic_Take.f
 repeat' (with_reducible first | exact ih0 _ _ _ _ _ _ | exact ih1 _ _ _ _ _ | exact quic_take.mono _ _ _ | exact LeO.refl _ | exact LeO.none _ | refine LeO.ite ?_ ?_ | refine LeO.bind ?_ (fun _ => ?_))
set_option maxHeartbeats 8000000 in
set_option maxRecDepth 100000 in
theorem quic_Take.calls (k : Nat) (a0 : ByteArray) (A1 : Option Addr) (c1 : Nat) (l1 : List Int) (r1 : List (S147)) (r2 : ByteArray) (r3 : Int) (w : World) (hr1 : Kd.C (Kd.int .i64) w A1 l1.length l1) (hc1 : l1.length ≤ c1) (h : quic_Take.f k a0 l1 = some (r1, r2, r3)) :
  Calls Tryz.prog 99 #[.string a0, .slice A1 l1.length c1] w fun e w' => ∃ v0_ : Value, e = .returned (.tuple #[v0_, .string r2, .int .i64 r3]) ∧ Kd.R k147 147 w' w.heap.size (fun _ => True) v0_ r1 ∧ Below w.heap.size w w' := by
 have hu147 := Tryz.underlying147
 have HR1 := Aside0.mk hr1
 have HC1 := Aside0.mk hc1
 clear hr1 hc1
 have HB := Aside0.mk (Below.refl w.heap.size w)
 unfold quic_Take.f at h
 have H := h
 clear h
 revert H; refine itR ?L16p ?L16n
 case' L16p =>
  intro c3 H
  have c3b0 := gtT c3
  have c3b1 : decide (4096 < l1.length) = true := decide_eq_true (by omega)
  clear c3
  simp only [Option.some.injEq, Prod.mk.injEq] at H
  obtain ⟨rfl, rfl, rfl⟩ := H
  have M14 := True.intro
 case' L16n =>
  intro c3 H
  have c3b0 := gtF c3
  have c3b1 : decide (4096 < l1.length) = false := decide_eq_false (by omega)
  clear c3
  have H' := Aside0.mk H
  clear H
  have M15 := True.intro
 all_goals
  case _ =>
   go_enter Tryz.func99, Tryz.ntmps99
   go_wp2
   first
    | clear M14
      go_ret3
      exact ⟨_, endA, by first | exact Kd.R_nil _ _ _ _ _ | exact Kd.N_nil _ _ _ _ _ | exact Kd.V_nil _ _ _ _ _ | exact Kd.Q_nil _ _ _ _ _ | exact Kd.S_nil _ _ _ _ _, bwA⟩
    | clear M15
      go_loopg [4, 19] k (fun kq v4 v19 w' => ∃ (x4_1 : List (S147)) (x19_1 : Int), v19 = .int .i64 x19_1 ∧ Aside0 (quic_Take.l0 kq a0 l1 x4_1 l1 (l1.length : Int) x19_1 = some (r1, r2, r3)) ∧ Aside0 (kq ≤ k) ∧ Aside0 (Kd.R k147 147 w' w.heap.size (fun _ => True) v4 x4_1) ∧ Aside0 (Below w.heap.size w w'))
      case atStart => exact ⟨(([] : List (S147))), (0), (endS), H', ⟨Nat.le_refl _⟩, ⟨by first | exact Kd.R_nil _ _ _ _ _ | exact Kd.N_nil _ _ _ _ _ | exact Kd.V_nil _ _ _ _ _ | exact Kd.Q_nil _ _ _ _ _ | exact Kd.S_nil _ _ _ _ _⟩, ⟨bwA⟩⟩
      case round =>
       clear H'
       try clear c1
       try clear p2
       try clear c3
       try clear c3b0
       try clear c3b1
       try clear c9
       try clear c99
       obtain ⟨x4_1, x19_1, rfl, HA, HK1, HO_4, HB⟩ := hrel
       cases gk with
       | zero => exact absurd HA.out (by simp [quic_Take.l0])
       | succ k1 =>
        have H := HA.out
        clear HA
        simp only [quic_Take.l0] at H
        revert H; refine itR ?L7p ?L7n
        case' L7p =>
         intro c101 H
         have c101b0 := decide_eq_true c101
         clear c101
         replace H := itN H
         obtain ⟨c102, H⟩ := H
         have c102b0 := decide_eq_true c102
         clear c102
         replace H := itN H
         obtain ⟨c103, H⟩ := H
         have c103b0 := decide_eq_true c103
         clear c103
         revert H; refine itR ?L8p ?L8n
         case' L8p =>
          intro c104 H
          have c104b0 := decide_eq_true c104
          clear c104
          simp only [Option.some.injEq, Prod.mk.injEq] at H
          obtain ⟨rfl, rfl, rfl⟩ := H
          have M5 := True.intro
         case' L8n =>
          intro c104 H
          have c104b0 := decide_eq_false c104
          clear c104
          revert H; refine itR ?L9p ?L9n
          case' L9p =>
           intro c105 H
           have c105b0 := gtT c105
           clear c105
           simp only [Option.some.injEq, Prod.mk.injEq] at H
           obtain ⟨rfl, rfl, rfl⟩ := H
           have M5 := True.intro
          case' L9n =>
           intro c105 H
           have c105b0 := gtF c105
           clear c105
           have H' := Aside0.mk H
           clear H
           have M6 := True.intro
        case' L7n =>
         intro c101 H
         have c101b0 := decide_eq_false c101
         clear c101
         have H' := Aside0.mk H
         clear H
         go_wp2
         go_loopg [0, 4, 32] k1 (fun kq v0 v4 v32 w' => ∃ (x0_2 : ByteArray) (x4_2 : List (S147)) (x32_2 : Int), v0 = .string x0_2 ∧ v32 = .int .i64 x32_2 ∧ Aside0 (quic_Take.l1 kq x0_2 x4_2 l1 (l1.length : Int) x32_2 = some (r1, r2, r3)) ∧ Aside0 (kq ≤ k1) ∧ Aside0 (Kd.R k147 147 w' w.heap.size (fun _ => True) v4 x4_2) ∧ Aside0 (Below w.heap.size w w'))
         case atStart => exact ⟨(a0), (x4_1), (0), (endS), (endS), H', ⟨Nat.le_refl _⟩, ⟨by (with_reducible repeat (first | apply Kd.R_alloc | apply Kd.R_drewN | apply Kd.R_drew)); exact HO_4.out⟩, ⟨bwA⟩⟩
         case round =>
          clear H'
          try clear c1
          try clear p2
          try clear c3
          try clear c3b0
          try clear c3b1
          try clear p3
          try clear q3
          try clear hx3
          try clear p6
          try clear c9
          try clear c10
          try clear p37
          try clear q37
          try clear hx37
          try clear p64
          try clear c99
          try clear c101
          try clear c101b0
          try clear c102
          try clear c102b0
          try clear c103
          try clear c103b0
          try clear c104
          try clear c104b0
          try clear c105
          try clear c105b0
          try clear hx372_0
          try clear p2
          try clear p372
          try clear q372
          obtain ⟨x0_2, x4_2, x32_2, rfl, rfl, HA, HK2, HO_4, HB⟩ := hrel
          cases gk with
          | zero => exact absurd HA.out (by simp [quic_Take.l1])
          | succ k2 =>
           have H := HA.out
           clear HA
           simp only [quic_Take.l1] at H
           revert H; refine itR ?L12p ?L12n
           case' L12p =>
            intro c201 H
            have c201b0 := decide_eq_true c201
            clear c201
            replace H := itN H
            obtain ⟨c202, H⟩ := H
            have c202b0 := decide_eq_true c202
            clear c202
            replace H := itN H
            obtain ⟨c203, H⟩ := H
            have c203b0 := decide_eq_true c203
            clear c203
            replace H := bnA H
            obtain ⟨⟨t374, t375, t376, t377, t378⟩, A204, H⟩ := H
            dsimp only at H
            revert H; refine itR ?L13p ?L13n
            case' L13p =>
             intro c205 H
             obtain ⟨c205b0, c205b1⟩ := fcE c205
             clear c205
             replace H := itN H
             obtain ⟨c206, H⟩ := H
             have LMc206 := Aside0.mk c206
             clear c206
             obtain ⟨y380, hy380⟩ : ∃ y_ : List (S147), y_ = (x4_2 ++ [(⟨t374, t375, t376⟩ : S147)]) := ⟨_, rfl⟩
             replace H : (quic_Take.l1 k2 t377 y380 l1 (l1.length : Int) (wrap64 (x32_2 + 1))) = some (r1, r2, r3) := by first | (rw [hy380]; with_reducible exact H) | (have H2_ := (Option.bind_some _ _).symm.trans H; rw [hy380]; with_reducible exact H2_) | (have H2_ := (Option.bind_some _ _).symm.trans H; with_reducible exact H2_) | with_reducible exact H | (rw [hy380]; exact H) | exact H
             have Ny380 := Aside0.mk hy380
             clear hy380
             have H' := Aside0.mk H
             clear H
             have M10 := True.intro
            case' L13n =>
             intro c205 H
             obtain ⟨c205b0, c205b1⟩ := fcN c205
             simp only [Option.some.injEq, Prod.mk.injEq] at H
             obtain ⟨rfl, rfl, rfl⟩ := H
             have M11 := True.intro
           case' L12n =>
            intro c201 H
            have c201b0 := decide_eq_false c201
            clear c201
            simp only [Option.some.injEq, Prod.mk.injEq] at H
            obtain ⟨rfl, rfl, rfl⟩ := H
            go_wp2
            go_ret3
            exact ⟨_, endA, by (with_reducible repeat (first | apply Kd.R_alloc | apply Kd.R_drewN | apply Kd.R_drew)); exact HO_4.out, bwA⟩
           all_goals
            case _ =>
             have p373 : 0 ≤ (x32_2 : Int) := odA
             have q373 : x32_2 < (l1.length : Int) := odA
             obtain ⟨ad373, e373, hx373_0⟩ := Kd.at_int HR1.out x32_2 p373 q373
             cases e373
             replace hx373_0 := crA hx373_0
             replace p373 := eq_true p373
             replace q373 := eq_true q373
             go_wp2_with (first | ((with_reducible refine gate_callee (f := 166) rfl ?_); refine goesA (some 39) Tryz.func166 #[.string x0_2, .int .i64 (rd l1 x32_2)] ?_; (with_reducible refine (quic_take.calls _ _ _ _ _ _ _ _ _ A204.out).mono ?_); rintro e w301 ⟨rfl, hb⟩; refine ⟨_, rfl, ?_⟩; replace HO_4 := Aside0.mk (Kd.R_below (raA HO_4.out) hb); replace HB := Aside0.mk (below_step (bwA) hb); (try clear hb)) | ((with_reducible refine gate_dst (N := 11) rfl ?_); refine boxA 11 #[.int .i64 0, .int .i64 0, .string (⟨#[]⟩ : ByteArray)] 147 ?_; intro gb379 hg w302 hbox hb; have BK379 := Aside0.mk (hbox); have GW379 := Aside0.mk (hgW hg : w.heap.size ≤ gb379); have GE379 := Aside0.mk (hgW hg : w.heap.size ≤ gb379); replace HO_4 := Aside0.mk (Kd.R_below (Kd.R_elderB (raA HO_4.out) gb379 (Nat.le_of_eq hg.symm)) hb); replace HB := Aside0.mk (below_step (bwA) hb); clear hb hbox hg; have hcz303_0 := celA BK379.out 0 (.int .i64 0); have hcz303_1 := celA BK379.out 1 (.int .i64 0); have hcz303_2 := celA BK379.out 2 (.string (⟨#[]⟩ : ByteArray)); have hfz303_0 := blk_frozen BK379.out 0; have hfz303_1 := blk_frozen BK379.out 1; have hfz303_2 := blk_frozen BK379.out 2; apply stopA; (case other => exact True.intro)))
             case _ =>
              first
               | clear M10
                 try go_wp2_with (first | ((with_reducible refine gate_builtin (b := .append) (xs := #[.tmp 46, .tmp 48]) rfl ?_); at_builtin; refine Kd.R_append k147 (w0 := w) w.heap.size rfl (.tmp 46) (.tmp 48) 143 147 (.agg #[(.int .i64 0), (.int .i64 0), (.string ⟨#[]⟩)]) 32 rfl Tryz.underlying143 info147 rfl (by decide) (by omega) u4 x4_2 (⟨t374, t375, t376⟩ : S147) [.int .i64 t374, .int .i64 t375, .string t376] (fun k_ => k_ ≠ gb379) (fun _ => False) rfl (by first | (go_simp; done) | (go_simp; rfl)) ?aP (fun _ hk => hk.elim) ?aF ?aO ?aB ?aS ?aL ?_; (case aP => exact k147_mkM _ _ _ (⟨t374, t375, t376⟩ : S147)); (case aB => exact (bwA)); (case aF => exact (fun k_ hk => Kd.freshB (g := gb379) (o := .cells #[.int .i64 t374, .int .i64 t375, .string t376] 147 (0, 0)) (by refine blkP (cs := #[.int .i64 t374, .int .i64 t375, .string (⟨#[]⟩ : ByteArray)]) ?_ 2 _; refine blkP (cs := #[.int .i64 t374, .int .i64 0, .string (⟨#[]⟩ : ByteArray)]) ?_ 1 _; refine blkP (cs := #[.int .i64 0, .int .i64 0, .string (⟨#[]⟩ : ByteArray)]) ?_ 0 _; (with_reducible repeat (first | refine blk_drewN ?_ _ | refine blk_drew ?_ | refine blk_alloc ?_ _)); exact BK379.out) k_ hk)); (case aO => exact (raA (Kd.R_mono (Kd.R_far (p := ⟨gb379, 2, none⟩) (Kd.R_far (p := ⟨gb379, 1, none⟩) (Kd.R_far (p := ⟨gb379, 0, none⟩) (Kd.R_mono HO_4.out (fun k_ hk => (⟨hk, hk.2⟩ : _ ∧ k_ ≠ gb379))) (fun _ hk => hk.2) (.int .i64 t374)) (fun _ hk => hk.2) (.int .i64 t375)) (fun _ hk => hk.2) (.string t376)) (fun _ hk => hk.1.2)))); (case aS => exact (below_size (bwA))); (case aL => have := LMc206.out; omega); intro v381 w304 ho hb hg hat; rw [← Ny380.out] at ho; have n0_ := Aside0.mk (blk_grown (g := gb379) (o := .cells #[.int .i64 t374, .int .i64 t375, .string t376] 147 (0, 0)) (by refine blkP (cs := #[.int .i64 t374, .int .i64 t375, .string (⟨#[]⟩ : ByteArray)]) ?_ 2 _; refine blkP (cs := #[.int .i64 t374, .int .i64 0, .string (⟨#[]⟩ : ByteArray)]) ?_ 1 _; refine blkP (cs := #[.int .i64 0, .int .i64 0, .string (⟨#[]⟩ : ByteArray)]) ?_ 0 _; (with_reducible repeat (first | refine blk_drewN ?_ _ | refine blk_drew ?_ | refine blk_alloc ?_ _)); exact BK379.out) hg (Kd.R_away HO_4.out (fun _ hk => hk.2))); have n1_ := Aside0.mk (hb); have n2_ := Aside0.mk (ho); clear BK379; clear HB; clear HO_4; have BK379 := n0_; have HB := n1_; have HO382 := n2_; clear n0_ n1_ n2_; clear ho hb hg hat))
                 go_roundg k2
                 case measure => have := HK1.out; have := HK2.out; omega
                 case rel => exact ⟨(t377), (y380), (wrap64 (x32_2 + 1)), (endS), (endS), H', ⟨by have := HK1.out; have := HK2.out; omega⟩, ⟨by (with_reducible repeat (first | apply Kd.R_alloc | apply Kd.R_drewN | apply Kd.R_drew)); exact Kd.R_mono HO382.out (fun _ hk => trivial)⟩, ⟨bwA⟩⟩
               | clear M11
                 (try go_wp2_with (fail))
                 go_ret3
                 exact ⟨_, endA, by first | exact Kd.R_nil _ _ _ _ _ | exact Kd.N_nil _ _ _ _ _ | exact Kd.V_nil _ _ _ _ _ | exact Kd.Q_nil _ _ _ _ _ | exact Kd.S_nil _ _ _ _ _, bwA⟩
        all_goals
         case _ =>
          have p372 : 0 ≤ (x19_1 : Int) := odA
          have q372 : x19_1 < (l1.length : Int) := odA
          obtain ⟨ad372, e372, hx372_0⟩ := Kd.at_int HR1.out x19_1 p372 q372
          cases e372
          replace hx372_0 := crA hx372_0
          replace p372 := eq_true p372
          replace q372 := eq_true q372
          go_wp2
          first
           | clear M5
             go_ret3
             exact ⟨_, endA, by first | exact Kd.R_nil _ _ _ _ _ | exact Kd.N_nil _ _ _ _ _ | exact Kd.V_nil _ _ _ _ _ | exact Kd.Q_nil _ _ _ _ _ | exact Kd.S_nil _ _ _ _ _, bwA⟩
           | clear M6
             go_roundg k1
             case measure => have := HK1.out; omega
             case rel => exact ⟨(x4_1), (wrap64 (x19_1 + 1)), (endS), H', ⟨by have := HK1.out; omega⟩, ⟨by (with_reducible repeat (first | apply Kd.R_alloc | apply Kd.R_drewN | apply Kd.R_drew)); exact HO_4.out⟩, ⟨bwA⟩⟩
/-! ### value_how: function 237 -/
def value_how.f (a0 : Int) : Option (Int) := if a0 = 1 then (some 2) else (if a0 = 3 then (some 3) else (if a0 = 2 then (some 4) else (if a0 = 4 then (some 4) else (some 0))))
set_option maxHeartbeats 8000000 in
set_option maxRecDepth 100000 in
theorem value_how.calls (a0 : Int) (r : Int) (w : World) (h : value_how.f a0 = some r) :
  Calls Tryz.prog 237 #[.int .i64 a0] w fun e w' => e = .returned (.int .i64 r) ∧ Drawn0 w w' := by
 unfold value_how.f at h
 have H := h
 clear h
 revert H; refine itR ?L1p ?L1n
 case' L1p =>
  intro c2 H
  obtain ⟨c2b0, c2b1⟩ := fcE c2
  clear c2
  obtain rfl := Option.some.inj H
 case' L1n =>
  intro c2 H
  obtain ⟨c2b0, c2b1⟩ := fcN c2
  revert H; refine itR ?L2p ?L2n
  case' L2p =>
   intro c3 H
   obtain ⟨c3b0, c3b1⟩ := fcE c3
   clear c3
   obtain rfl := Option.some.inj H
  case' L2n =>
   intro c3 H
   obtain ⟨c3b0, c3b1⟩ := fcN c3
   revert H; refine itR ?L3p ?L3n
   case' L3p =>
    intro c4 H
    obtain ⟨c4b0, c4b1⟩ := fcE c4
    clear c4
    obtain rfl := Option.some.inj H
   case' L3n =>
    intro c4 H
    obtain ⟨c4b0, c4b1⟩ := fcN c4
    revert H; refine itR ?L4p ?L4n
    case' L4p =>
     intro c5 H
     obtain ⟨c5b0, c5b1⟩ := fcE c5
     clear c5
     obtain rfl := Option.some.inj H
    case' L4n =>
     intro c5 H
     obtain ⟨c5b0, c5b1⟩ := fcN c5
     obtain rfl := Option.some.inj H
 all_goals
  case _ =>
   go_enter Tryz.func237, Tryz.ntmps237
   go_wp2
   go_ret
   exact ⟨endS, drA⟩
end Go.Proofs.YtkdndabpaajkaaaGreatDoor.A
