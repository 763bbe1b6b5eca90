-- By drv.py, the session's own driver round the kit's print: the machine's side of the laws, function by function. Not trusted: Lean checks it.
import Derived.Test.YtkdndabpaajkaaaGreatDoorAx0
import Derived.Test.YtkdndabpaajkaaaGreatDoorAx16
import Derived.Test.YtkdndabpaajkaaaGreatDoorAx22
namespace Go.Proofs.YtkdndabpaajkaaaGreatDoor.A
open Go.RowKit Go.Proofs.YtkdndabpaajkaaaGreatDoorW.PrintWords Go.Proofs.YtkdndabpaajkaaaGreatDoorW.PrintLast Go.Proofs.YtkdndabpaajkaaaGreatDoorW.PrintMore
attribute [local go_sem] max2_int min2_int max_two min_two max_three min_three max_four min_four   -- for this text's walks alone
set_option linter.unusedVariables false
set_option linter.unusedSimpArgs false

/-! ### event_attrs: function 133 -/
mutual
def event_attrs.l0 : Nat → ByteArray → List (S76) → Option ((List (S76)))
 | 0, _, _ => none
 | k + 1, x0, x3 => if (x3.length : Int) ≤ 24 then ((strings_Cut.f x0 (⟨#[61]⟩ : ByteArray)).bind fun bt257 => (if bt257.2.2 = true then (if (bt257.1.size : Int) < 2 then (event_attrs.j1 k x3 bt257.1 bt257.2.1 true) else (if 0 < (bt257.1.size : Int) then (event_attrs.j1 k x3 bt257.1 bt257.2.1 ((bt bt257.1 0) != 32)) else (none))) else (event_attrs.j1 k x3 bt257.1 bt257.2.1 true))) else (some x3)
def event_attrs.j1 : Nat → List (S76) → ByteArray → ByteArray → Bool → Option ((List (S76)))
 | 0, _, _, _, _ => none
 | k + 1, x3, x4, x5, x30 => if x30 = true then (some x3) else ((value_Scan.f k x5).bind fun bt260 => (if bt260.2.2.2.2 = 0 then (if bt260.2.2.2.1.toList = ([] : List UInt8) then (if 1 ≤ (x4.size : Int) then (if x3.length < 2932031007402 then (some (x3 ++ [(⟨x4.extract 1 x4.size, (⟨bt260.1, bt260.2.1, bt260.2.2.1⟩ : S74)⟩ : S76)])) else (none)) else (none)) else (if 1 ≤ (x4.size : Int) then (if x3.length < 2932031007402 then (event_attrs.l0 k bt260.2.2.2.1 (x3 ++ [(⟨x4.extract 1 x4.size, (⟨bt260.1, bt260.2.1, bt260.2.2.1⟩ : S74)⟩ : S76)])) else (none)) else (none))) else (some x3)))
end
def event_attrs.f (k : Nat) (a0 : ByteArray) : Option ((List (S76))) := event_attrs.l0 k a0 ([] : List (S76))
theorem event_attrs.mono_l : ∀ k, (∀ y0 y1, LeO (event_attrs.l0 k y0 y1) (event_attrs.l0 (k + 1) y0 y1)) ∧ (∀ y0 y1 y2 y3, LeO (event_attrs.j1 k y0 y1 y2 y3) (event_attrs.j1 (k + 1) y0 y1 y2 y3))
 | 0 => ⟨fun _ _ r h => by simp [event_attrs.l0] at h, fun _ _ _ _ r h => by simp [event_attrs.j1] at h⟩
 | k + 1 => by
  obtain ⟨ih0, ih1⟩ := event_attrs.mono_l k
  refine ⟨?_, ?_⟩
  all_goals intros
  all_goals first | unfold event_attrs.l0 | unfold event_attrs.j1
  all_goals repeat' (with_reducible first | exact ih0 _ _ | exact ih1 _ _ _ _ | exact value_Scan.mono _ _ | exact LeO.refl _ | exact LeO.none _ | refine LeO.ite ?_ ?_ | refine LeO.bind ?_ (fun _ => ?_))
theorem event_attrs.mono : ∀ a0 k, LeO (event_attrs.f k a0) (event_attrs.f (k + 1) a0) := by
 intro a0 k
 obtain ⟨ih0, ih1⟩ := event_attrs.mono_l k
 unfold event_attrs.f
 repeat' (with_reducible first | exact ih0 _ _ | exact ih1 _ _ _ _ | exact value_Scan.mono _ _ | exact LeO.refl _ | exact LeO.none _ | refine LeO.ite ?_ ?_ | refine LeO.bind ?_ (fun _ => ?_))
def event_attrs.T8 : Bool × List (List Nat × List Nat) := (true, [([], []), ([], []), ([1], [1]), ([], []), ([2, 3], [2, 3]), ([4], [4]), ([0, 5], [0, 5]), ([6, 6, 0, 1, 2, 3, 4, 5, 6], [6])])
def event_attrs.B8 : List Nat := [0, 0, 2, 0, 14, 30, 63, 127]
theorem event_attrs.tab8 : rtab .any (opsOf Tryz.f133 8) = event_attrs.T8 := by kernel_rfl
theorem event_attrs.bits8 : waitsOk event_attrs.T8.2 event_attrs.B8 = true := by kernel_rfl
def event_attrs.T9 : Bool × List (List Nat × List Nat) := (true, [([], []), ([], []), ([1], [1]), ([], []), ([2, 3], [2, 3]), ([4], [4]), ([0, 5], [0, 5]), ([], []), ([6, 6, 0, 1, 2, 3, 4, 5, 6], [0, 6]), ([7, 8, 0, 1, 2, 3, 4, 5, 6, 7, 8], [7])])
def event_attrs.B9 : List Nat := [0, 0, 2, 0, 14, 30, 63, 0, 127, 511]
theorem event_attrs.tab9 : rtab .any (opsOf Tryz.f133 9) = event_attrs.T9 := by kernel_rfl
theorem event_attrs.bits9 : waitsOk event_attrs.T9.2 event_attrs.B9 = true := by kernel_rfl
set_option maxHeartbeats 8000000 in
set_option maxRecDepth 100000 in
theorem event_attrs.calls (k : Nat) (a0 : ByteArray) (r : List (S76)) (w : World) (hT : Tabs w) (h : event_attrs.f k a0 = some r) :
  Calls Tryz.prog 133 #[.string a0] w fun e w' => ∃ v0_ : Value, e = .returned (v0_) ∧ Kd.R k76 76 w' w.heap.size (fun _ => True) v0_ r ∧ Below w.heap.size w w' := by
 have hu74 := Tryz.underlying74
 have hu76 := Tryz.underlying76
 have HB := Aside0.mk (Below.refl w.heap.size w)
 unfold event_attrs.f at h
 have H := h
 clear h
 have HT := Aside0.mk hT
 clear hT
 have H' := Aside0.mk H
 clear H
 go_enter Tryz.func133, Tryz.ntmps133
 (try go_wp2)
 go_step3
 go_wp2
 go_step3
 (try go_wp2)
 go_loopg [0, 3] k (fun kq v0 v3 w' => ∃ (x0_1 : ByteArray) (x3_1 : List (S76)), v0 = .string x0_1 ∧ Aside0 (event_attrs.l0 kq x0_1 x3_1 = some r) ∧ Aside0 (kq ≤ k) ∧ Aside0 (Kd.R k76 76 w' w.heap.size (fun _ => True) v3 x3_1) ∧ Aside0 (Below w.heap.size w w'))
 case atStart => exact ⟨(a0), (([] : List (S76))), (endS), H', ⟨Nat.le_refl _⟩, ⟨by first | exact Kd.R_nil _ _ _ _ _ | exact Kd.N_nil _ _ _ _ _ | exact Kd.V_nil _ _ _ _ _ | exact Kd.Q_nil _ _ _ _ _ | exact Kd.S_nil _ _ _ _ _⟩, ⟨bwA⟩⟩
 case round =>
  clear H'
  try clear c1
  try clear p2
  try clear c13
  obtain ⟨x0_1, x3_1, rfl, HA, HK1, HO_3, HB⟩ := hrel
  cases gk with
  | zero => exact absurd HA.out (by simp [event_attrs.l0])
  | succ k1 =>
   have H := HA.out
   clear HA
   simp only [event_attrs.l0] at H
   revert H; refine itR ?L10p ?L10n
   case' L10p =>
    intro c101 H
    have c101b0 := decide_eq_true c101
    have c101b1 : decide (x3_1.length ≤ 24) = true := decide_eq_true (by omega)
    clear c101
    replace H := bnA H
    obtain ⟨⟨t257, t258, t259⟩, A102, H⟩ := H
    dsimp only at H
    have HC201 := Aside0.mk H
    clear H
    obtain ⟨Ao202, co202, eo202⟩ := Kd.R_slice HO_3.out
    subst eo202
    go_upto_region 4 with (first | ((with_reducible refine gate_callee (f := 132) rfl ?_); refine goesA (some 15) Tryz.func132 #[.string x0_1, .string (⟨#[61]⟩ : ByteArray)] ?_; (with_reducible refine (strings_Cut.calls _ _ _ _ _ _ ?side1 A102.out).mono ?_); (case side1 => exact Tabs.below HT.out (bwA)); rintro e w' ⟨rfl, ⟨nd, rfl⟩⟩; refine ⟨_, rfl, ?_⟩))
    (try simp only [Act.put, List.setIfInBounds_toArray, List.set_cons_zero, List.set_cons_succ])
    go_cut [30] (fun v30 wc => ∃ (kq : Nat) (x30_200 : Bool), v30 = .bool x30_200 ∧ Aside0 (event_attrs.j1 kq x3_1 t257 t258 x30_200 = some r) ∧ Aside0 (kq ≤ k1) ∧ Aside0 (Kd.R k76 76 wc w.heap.size (fun _ => True) (.slice Ao202 x3_1.length co202) x3_1) ∧ Aside0 (Below w.heap.size w wc))
    case first =>
     have H := HC201.out
     clear HC201
     revert H; refine itR ?L11p ?L11n
     case' L11p =>
      intro c203 H
      subst c203
      revert H; refine itR ?L12p ?L12n
      case' L12p =>
       intro c204 H
       have c204b0 := decide_eq_true c204
       have c204b1 : decide (t257.size < 2) = true := decide_eq_true (by omega)
       clear c204
       (first | rw [c204b0] | (simp only [i64_w, i32_w]; rw [c204b0]) | skip)
       have H' := Aside0.mk H
       clear H
      case' L12n =>
       intro c204 H
       have c204b0 := decide_eq_false c204
       have c204b1 : decide (t257.size < 2) = false := decide_eq_false (by omega)
       clear c204
       (first | rw [c204b0] | (simp only [i64_w, i32_w]; rw [c204b0]) | skip)
       replace H := itN H
       obtain ⟨c205, H⟩ := H
       have c205b0 := decide_eq_true c205
       have c205b1 : decide (0 < t257.size) = true := decide_eq_true (by omega)
       clear c205
       have H' := Aside0.mk H
       clear H
       have p206 : 0 ≤ (0 : Int) := (by omega)
       have q206 : 0 < t257.size := (by have : (0 : Int) < (t257.size : Int) := odA; omega)
       have hx206 : ∀ h : 0 < t257.size, ((t257[0]'h).toNat : Int) = bt t257 0 := bt_at t257 0
       clear p206
       have qi206 : (0 < (t257.size : Int)) = True := eq_true (odA)
       replace q206 := eq_true q206
       go_wp2
       go_meet
       case rel => exact ⟨_, (((bt t257 0) != 32)), (endS), H', ⟨by have := HK1.out; first | omega | exact Nat.le_refl _⟩, ⟨by (with_reducible repeat (first | apply Kd.R_alloc | apply Kd.R_drewN | apply Kd.R_drew)); exact HO_3.out⟩, ⟨bwA⟩⟩
     case' L11n =>
      intro c203 H
      replace c203 := Bool.eq_false_iff.mpr c203
      subst c203
      have H' := Aside0.mk H
      clear H
     all_goals
      case _ =>
       go_wp2
       go_meet
       case rel => exact ⟨_, (true), (endS), H', ⟨by have := HK1.out; first | omega | exact Nat.le_refl _⟩, ⟨by (with_reducible repeat (first | apply Kd.R_alloc | apply Kd.R_drewN | apply Kd.R_drew)); exact HO_3.out⟩, ⟨bwA⟩⟩
    case rest =>
     clear HC201
     try clear c1
     try clear c2
     try clear p2
     try clear q2
     try clear hx2
     try clear qi2
     try clear c10
     try clear c13
     try clear c20
     try clear p20
     try clear q20
     try clear hx20
     try clear qi20
     try clear c101
     try clear c101b0
     try clear c101b1
     try clear c132
     try clear c133
     try clear p2
     try clear p206
     try clear q206
     obtain ⟨kq, x30_200, rfl, HA, HJ200, HO_3, HB⟩ := hcut
     cases kq with
     | zero => exact absurd HA.out (by simp [event_attrs.j1])
     | succ kj200 =>
      have H := HA.out
      clear HA
      simp only [event_attrs.j1] at H
      revert H; refine itR ?L17p ?L17n
      case' L17p =>
       intro c203 H
       subst c203
       obtain rfl := Option.some.inj H
       go_wp2
       (try rw [Exit.noGoto_ret])
       go_ret
       exact ⟨_, endA, by (with_reducible repeat (first | apply Kd.R_alloc | apply Kd.R_drewN | apply Kd.R_drew)); exact HO_3.out, bwA⟩
      case' L17n =>
       intro c203 H
       replace c203 := Bool.eq_false_iff.mpr c203
       subst c203
       replace H := bnA H
       obtain ⟨⟨t260, t261, t262, t263, t264⟩, A204, H⟩ := H
       dsimp only at H
       revert H; refine itR ?L18p ?L18n
       case' L18p =>
        intro c205 H
        obtain ⟨c205b0, c205b1⟩ := fcE c205
        clear c205
        revert H; refine itR ?L19p ?L19n
        case' L19p =>
         intro c206 H
         obtain ⟨c206b0, c206b1⟩ := fcE c206
         clear c206
         replace H := itN H
         obtain ⟨c207, H⟩ := H
         have c207b0 := eq_true c207
         have c207b1 := decide_eq_true c207
         clear c207
         replace H := itN H
         obtain ⟨c208, H⟩ := H
         have LMc208 := Aside0.mk c208
         clear c208
         obtain ⟨y266, hy266⟩ : ∃ y_ : List (S76), y_ = (x3_1 ++ [(⟨t257.extract 1 t257.size, (⟨t260, t261, t262⟩ : S74)⟩ : S76)]) := ⟨_, rfl⟩
         replace H : (some y266) = some r := by first | (rw [hy266]; with_reducible exact H) | (have H2_ := (Option.bind_some _ _).symm.trans H; rw [hy266]; with_reducible exact H2_) | (have H2_ := (Option.bind_some _ _).symm.trans H; with_reducible exact H2_) | with_reducible exact H | (rw [hy266]; exact H) | exact H
         have Ny266 := Aside0.mk hy266
         clear hy266
         obtain rfl := Option.some.inj H
         have M13 := True.intro
         have M14 := True.intro
        case' L19n =>
         intro c206 H
         obtain ⟨c206b0, c206b1⟩ := fcN c206
         replace H := itN H
         obtain ⟨c207, H⟩ := H
         have c207b0 := eq_true c207
         have c207b1 := decide_eq_true c207
         clear c207
         replace H := itN H
         obtain ⟨c208, H⟩ := H
         have LMc208 := Aside0.mk c208
         clear c208
         obtain ⟨y269, hy269⟩ : ∃ y_ : List (S76), y_ = (x3_1 ++ [(⟨t257.extract 1 t257.size, (⟨t260, t261, t262⟩ : S74)⟩ : S76)]) := ⟨_, rfl⟩
         replace H : (event_attrs.l0 kj200 t263 y269) = some r := by first | (rw [hy269]; with_reducible exact H) | (have H2_ := (Option.bind_some _ _).symm.trans H; rw [hy269]; with_reducible exact H2_) | (have H2_ := (Option.bind_some _ _).symm.trans H; with_reducible exact H2_) | with_reducible exact H | (rw [hy269]; exact H) | exact H
         have Ny269 := Aside0.mk hy269
         clear hy269
         have H' := Aside0.mk H
         clear H
         have M13 := True.intro
         have M15 := True.intro
       case' L18n =>
        intro c205 H
        obtain ⟨c205b0, c205b1⟩ := fcN c205
        obtain rfl := Option.some.inj H
        have M16 := True.intro
      all_goals
       case _ =>
        try go_wp2_with (first | ((with_reducible refine gate_callee (f := 194) rfl ?_); refine goesA (some 33) Tryz.func194 #[.string t258] ?_; (with_reducible refine (value_Scan.calls _ _ _ _ _ _ _ _ ?side1 A204.out).mono ?_); (case side1 => exact Tabs.below HT.out (bwA)); rintro e w301 ⟨rfl, hb⟩; refine ⟨_, rfl, ?_⟩; replace HO_3 := Aside0.mk (Kd.R_below (raA HO_3.out) hb); replace HB := Aside0.mk (below_step (bwA) hb); (try clear hb)) | ((with_reducible refine gate_dst (N := 7) rfl ?_); (try (refine gate_guard (by rfl) ?_; dsimp only)); refine boxA 7 #[.int .i64 0, .int .i64 0, .string (⟨#[]⟩ : ByteArray)] 74 ?_; intro gb265 hg w302 hbox hb; have BK265 := Aside0.mk (hbox); have GW265 := Aside0.mk (hgW hg : w.heap.size ≤ gb265); have GE265 := Aside0.mk (hgW hg : w.heap.size ≤ gb265); replace HO_3 := Aside0.mk (Kd.R_below (raA HO_3.out) hb); replace HB := Aside0.mk (below_step (bwA) hb); clear hb hbox hg; have hcz303_0 := celA BK265.out 0 (.int .i64 0); have hcz303_1 := celA BK265.out 1 (.int .i64 0); have hcz303_2 := celA BK265.out 2 (.string (⟨#[]⟩ : ByteArray)); have hfz303_0 := blk_frozen BK265.out 0; have hfz303_1 := blk_frozen BK265.out 1; have hfz303_2 := blk_frozen BK265.out 2))
        first
         | clear M13
           have n0_ : Aside0 (Kd.R k76 76 (((w302.setCell ⟨gb265, 0, none⟩ (.int .i64 t260)).setCell ⟨gb265, 1, none⟩ (.int .i64 t261)).setCell ⟨gb265, 2, none⟩ (.string t262)) w.heap.size (fun _ => True) (.slice Ao202 x3_1.length co202) x3_1) := ⟨by (with_reducible repeat (first | apply Kd.R_alloc | apply Kd.R_drewN | apply Kd.R_drew)); exact Kd.R_mono (Kd.R_far (p := ⟨gb265, 2, none⟩) (Kd.R_far (p := ⟨gb265, 1, none⟩) (Kd.R_far (p := ⟨gb265, 0, none⟩) (Kd.R_types HO_3.out BK265.out (by decide)) (fun _ hk => hk.2) (.int .i64 t260)) (fun _ hk => hk.2) (.int .i64 t261)) (fun _ hk => hk.2) (.string t262)) (fun _ hk => trivial)⟩
           have n1_ : Aside0 ((((w302.setCell ⟨gb265, 0, none⟩ (.int .i64 t260)).setCell ⟨gb265, 1, none⟩ (.int .i64 t261)).setCell ⟨gb265, 2, none⟩ (.string t262)).heap[gb265]? = some (.cells #[.int .i64 t260, .int .i64 t261, .string t262] 74 (0, 0))) := ⟨by refine blkP (cs := #[.int .i64 t260, .int .i64 t261, .string (⟨#[]⟩ : ByteArray)]) ?_ 2 _; refine blkP (cs := #[.int .i64 t260, .int .i64 0, .string (⟨#[]⟩ : ByteArray)]) ?_ 1 _; refine blkP (cs := #[.int .i64 0, .int .i64 0, .string (⟨#[]⟩ : ByteArray)]) ?_ 0 _; (with_reducible repeat (first | refine blk_drewN ?_ _ | refine blk_drew ?_ | refine blk_alloc ?_ _)); exact BK265.out⟩
           have n2_ : Aside0 (Below w.heap.size w (((w302.setCell ⟨gb265, 0, none⟩ (.int .i64 t260)).setCell ⟨gb265, 1, none⟩ (.int .i64 t261)).setCell ⟨gb265, 2, none⟩ (.string t262))) := ⟨bwA⟩
           (try clear HO_3)
           (try clear BK265)
           (try clear HB)
           generalize (((w302.setCell ⟨gb265, 0, none⟩ (.int .i64 t260)).setCell ⟨gb265, 1, none⟩ (.int .i64 t261)).setCell ⟨gb265, 2, none⟩ (.string t262)) = w304 at n0_ n1_ n2_ ⊢
           have HO_3 := n0_
           have BK265 := n1_
           have HB := n2_
           clear n0_ n1_ n2_
           replace HO_3 := Aside0.mk (Kd.R_drew HO_3.out)
           replace BK265 := Aside0.mk (blk_drew BK265.out)
           replace HB := Aside0.mk (below_drew1 HB.out)
           first
            | clear M14
              refine start_ (n := 8) (S := fun w' => w'.cell? ⟨gb265, 0, none⟩ = some (.int .i64 t260) ∧ w'.cell? ⟨gb265, 1, none⟩ = some (.int .i64 t261) ∧ w'.cell? ⟨gb265, 2, none⟩ = some (.string t262)) (ds := []) (mkB 8 0) (by kernel_rfl) rfl rfl ⟨(blk_cell BK265.out 0).trans rfl, (blk_cell BK265.out 1).trans rfl, (blk_cell BK265.out 2).trans rfl⟩ (fun hHeld => ?_); refine with_tabW event_attrs.tab8 event_attrs.bits8 (fun HT_ HW_ => ?_)
              generalize w304.drew = w305 at HO_3 BK265 HB hHeld ⊢
              refine pureA 0 (some 43) (mkB 8 1) ?_
              refine pureA 1 (some 44) (mkB 8 3) ?_
              refine pureA 2 (some 45) (mkB 8 7) ?_
              refine takeA 3 (some 46) (mkB 8 15) ?_ rfl (Or.inl ⟨by rfl, by rintro w' ⟨s0, s1, s2⟩; go_simp; with_reducible rfl⟩)
              refine pureA 4 (some 47) (mkB 8 31) ?_
              refine oneA 5 (some 48) (mkB 8 63) (fun K hK => ?_)
              refine value_ (w1 := ?_) (v := ?_) (by rfl) rfl ?_ ?_
              rotate_left 2
              ·go_simp
               constructor
               ·rfl
               ·rfl
              refine hK.out _ _ ⟨(blk_cell (blk_alloc BK265.out _) 0).trans rfl, (blk_cell (blk_alloc BK265.out _) 1).trans rfl, (blk_cell (blk_alloc BK265.out _) 2).trans rfl⟩ (fun hHeld => ?_)
              clear hK K
              refine normA ?_
              refine oneA 6 (some 49) (mkB 8 127) (fun K hK => ?_)
              refine Kd.R_append_step k76 (w0 := w) w.heap.size (by rfl) (.tmp 43) (.tmp 48) 64 76 (.agg #[(.string ⟨#[]⟩), (.int .i64 0), (.int .i64 0), (.string ⟨#[]⟩)]) 48 rfl Tryz.underlying64 info76 rfl (by decide) (by omega) (.slice Ao202 x3_1.length co202) x3_1 (⟨t257.extract 1 t257.size, (⟨t260, t261, t262⟩ : S74)⟩ : S76) [.string (t257.extract 1 t257.size), .int .i64 t260, .int .i64 t261, .string t262] (fun _ => True) (fun _ => False) rfl rfl ?aP (fun _ hk => hk.elim) ?aF ?aO ?aB ?aS ?aL ?_
              (case aP => exact k76_mkM _ _ _ (⟨t257.extract 1 t257.size, (⟨t260, t261, t262⟩ : S74)⟩ : S76))
              (case aB => exact (bwA))
              (case aF => exact (fun _ _ => trivial))
              (case aO => exact (raA HO_3.out))
              (case aS => exact (below_size (bwA)))
              (case aL => have := LMc208.out; omega)
              intro v267 w306 ho hb hg hat
              rw [← Ny266.out] at ho
              have n0_ := Aside0.mk (blk_grown (g := gb265) (o := .cells #[.int .i64 t260, .int .i64 t261, .string t262] 74 (0, 0)) blkA hg (Kd.R_ne HO_3.out BK265.out (by decide)))
              have n1_ := Aside0.mk (hb)
              have n2_ := Aside0.mk (ho)
              clear BK265
              clear HB
              clear HO_3
              have BK265 := n0_
              have HB := n1_
              have HO268 := n2_
              clear n0_ n1_ n2_
              clear ho hb hg hat
              refine hK.out _ _ ⟨(blk_cell BK265.out 0).trans rfl, (blk_cell BK265.out 1).trans rfl, (blk_cell BK265.out 2).trans rfl⟩ (fun hHeld => ?_)
              clear hK K
              refine norm_ (by simp only [putAll, Act.put, List.setIfInBounds_toArray, List.set_cons_zero, List.set_cons_succ, List.getElem_toArray, List.getElem_cons_zero, List.getElem_cons_succ]; rfl) ?_
              refine pureA 7 (some 2) (mkB 8 255) ?_
              refine done_ (done_of HT_.out (by kernel_rfl)) ?_
              try go_wp2
              (try rw [Exit.noGoto_ret])
              go_ret
              exact ⟨_, endA, by (with_reducible repeat (first | apply Kd.R_alloc | apply Kd.R_drewN | apply Kd.R_drew)); exact HO268.out, bwA⟩
            | clear M15
              refine start_ (n := 10) (S := fun w' => w'.cell? ⟨gb265, 0, none⟩ = some (.int .i64 t260) ∧ w'.cell? ⟨gb265, 1, none⟩ = some (.int .i64 t261) ∧ w'.cell? ⟨gb265, 2, none⟩ = some (.string t262)) (ds := []) (mkB 10 0) (by kernel_rfl) rfl rfl ⟨(blk_cell BK265.out 0).trans rfl, (blk_cell BK265.out 1).trans rfl, (blk_cell BK265.out 2).trans rfl⟩ (fun hHeld => ?_); refine with_tabW event_attrs.tab9 event_attrs.bits9 (fun HT_ HW_ => ?_)
              generalize w304.drew = w305 at HO_3 BK265 HB hHeld ⊢
              refine pureA 0 (some 50) (mkB 10 1) ?_
              refine pureA 1 (some 51) (mkB 10 3) ?_
              refine pureA 2 (some 52) (mkB 10 7) ?_
              refine pureA 7 (some 57) (mkB 10 135) ?_
              refine takeA 3 (some 53) (mkB 10 143) ?_ rfl (Or.inl ⟨by rfl, by rintro w' ⟨s0, s1, s2⟩; go_simp; with_reducible rfl⟩)
              refine pureA 4 (some 54) (mkB 10 159) ?_
              refine oneA 5 (some 55) (mkB 10 191) (fun K hK => ?_)
              refine value_ (w1 := ?_) (v := ?_) (by rfl) rfl ?_ ?_
              rotate_left 2
              ·go_simp
               constructor
               ·rfl
               ·rfl
              refine hK.out _ _ ⟨(blk_cell (blk_alloc BK265.out _) 0).trans rfl, (blk_cell (blk_alloc BK265.out _) 1).trans rfl, (blk_cell (blk_alloc BK265.out _) 2).trans rfl⟩ (fun hHeld => ?_)
              clear hK K
              refine normA ?_
              refine oneA 6 (some 56) (mkB 10 255) (fun K hK => ?_)
              refine Kd.R_append_step k76 (w0 := w) w.heap.size (by rfl) (.tmp 50) (.tmp 55) 64 76 (.agg #[(.string ⟨#[]⟩), (.int .i64 0), (.int .i64 0), (.string ⟨#[]⟩)]) 48 rfl Tryz.underlying64 info76 rfl (by decide) (by omega) (.slice Ao202 x3_1.length co202) x3_1 (⟨t257.extract 1 t257.size, (⟨t260, t261, t262⟩ : S74)⟩ : S76) [.string (t257.extract 1 t257.size), .int .i64 t260, .int .i64 t261, .string t262] (fun _ => True) (fun _ => False) rfl rfl ?aP (fun _ hk => hk.elim) ?aF ?aO ?aB ?aS ?aL ?_
              (case aP => exact k76_mkM _ _ _ (⟨t257.extract 1 t257.size, (⟨t260, t261, t262⟩ : S74)⟩ : S76))
              (case aB => exact (bwA))
              (case aF => exact (fun _ _ => trivial))
              (case aO => exact (raA HO_3.out))
              (case aS => exact (below_size (bwA)))
              (case aL => have := LMc208.out; omega)
              intro v270 w306 ho hb hg hat
              rw [← Ny269.out] at ho
              have n0_ := Aside0.mk (blk_grown (g := gb265) (o := .cells #[.int .i64 t260, .int .i64 t261, .string t262] 74 (0, 0)) blkA hg (Kd.R_ne HO_3.out BK265.out (by decide)))
              have n1_ := Aside0.mk (hb)
              have n2_ := Aside0.mk (ho)
              clear BK265
              clear HB
              clear HO_3
              have BK265 := n0_
              have HB := n1_
              have HO271 := n2_
              clear n0_ n1_ n2_
              clear ho hb hg hat
              refine hK.out _ _ ⟨(blk_cell BK265.out 0).trans rfl, (blk_cell BK265.out 1).trans rfl, (blk_cell BK265.out 2).trans rfl⟩ (fun hHeld => ?_)
              clear hK K
              refine norm_ (by simp only [putAll, Act.put, List.setIfInBounds_toArray, List.set_cons_zero, List.set_cons_succ, List.getElem_toArray, List.getElem_cons_zero, List.getElem_cons_succ]; rfl) ?_
              refine pureA 8 (some 3) (mkB 10 511) ?_
              refine pureA 9 (some 0) (mkB 10 1023) ?_
              refine done_ (done_of HT_.out (by kernel_rfl)) ?_
              try go_wp2
              go_roundg kj200
              case measure => have := HK1.out; have := HJ200.out; omega
              case rel => exact ⟨(t263), (y269), (endS), H', ⟨by have := HK1.out; have := HJ200.out; omega⟩, ⟨by (with_reducible repeat (first | apply Kd.R_alloc | apply Kd.R_drewN | apply Kd.R_drew)); exact HO271.out⟩, ⟨bwA⟩⟩
         | clear M16
           (try rw [Exit.noGoto_ret])
           go_ret
           exact ⟨_, endA, by (with_reducible repeat (first | apply Kd.R_alloc | apply Kd.R_drewN | apply Kd.R_drew)); exact Kd.R_mono (Kd.R_far (p := ⟨gb265, 2, none⟩) (Kd.R_far (p := ⟨gb265, 1, none⟩) (Kd.R_far (p := ⟨gb265, 0, none⟩) (Kd.R_types HO_3.out BK265.out (by decide)) (fun _ hk => hk.2) (.int .i64 t260)) (fun _ hk => hk.2) (.int .i64 t261)) (fun _ hk => hk.2) (.string t262)) (fun _ hk => trivial), bwA⟩
   case' L10n =>
    intro c101 H
    have c101b0 := decide_eq_false c101
    have c101b1 : decide (x3_1.length ≤ 24) = false := decide_eq_false (by omega)
    clear c101
    obtain rfl := Option.some.inj H
    obtain ⟨Ao201, co201, eo201⟩ := Kd.R_slice HO_3.out
    subst eo201
    go_wp2
    (try rw [Exit.noGoto_ret])
    go_ret
    exact ⟨_, endA, by (with_reducible repeat (first | apply Kd.R_alloc | apply Kd.R_drewN | apply Kd.R_drew)); exact HO_3.out, bwA⟩
end Go.Proofs.YtkdndabpaajkaaaGreatDoor.A
