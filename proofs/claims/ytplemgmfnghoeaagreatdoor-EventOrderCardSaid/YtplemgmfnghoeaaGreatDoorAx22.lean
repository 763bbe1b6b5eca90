-- By drv.py, the session's own driver round the kit's print: the machine's side of the laws, function by function. Not trusted: Lean checks it.
import Derived.Test.YtplemgmfnghoeaaGreatDoorAx0
import Derived.Test.YtplemgmfnghoeaaGreatDoorAx15
import Derived.Test.YtplemgmfnghoeaaGreatDoorAx21
namespace Go.Proofs.YtplemgmfnghoeaaGreatDoor.A
open Go.RowKit Go.Proofs.YtplemgmfnghoeaaGreatDoorW.PrintWords Go.Proofs.YtplemgmfnghoeaaGreatDoorW.PrintLast Go.Proofs.YtplemgmfnghoeaaGreatDoorW.PrintMore
attribute [local go_sem] max2_int min2_int max_two min_two max_three min_three max_four min_four   -- for this text's walks alone
set_option linter.unusedVariables false
set_option linter.unusedSimpArgs false

/-! ### event_attrs: function 52 -/
mutual
def event_attrs.l0 : Nat → ByteArray → List (S57) → Option ((List (S57)))
 | 0, _, _ => none
 | k + 1, x0, x3 => if (x3.length : Int) ≤ 24 then ((strings_Cut.f x0 (⟨#[61]⟩ : ByteArray)).bind fun bt267 => (if bt267.2.2 = true then (if (bt267.1.size : Int) < 2 then (event_attrs.j1 k x3 bt267.1 bt267.2.1 true) else (if 0 < (bt267.1.size : Int) then (event_attrs.j1 k x3 bt267.1 bt267.2.1 ((bt bt267.1 0) != 32)) else (none))) else (event_attrs.j1 k x3 bt267.1 bt267.2.1 true))) else (some x3)
def event_attrs.j1 : Nat → List (S57) → ByteArray → ByteArray → Bool → Option ((List (S57)))
 | 0, _, _, _, _ => none
 | k + 1, x3, x4, x5, x30 => if x30 = true then (some x3) else ((value_Scan.f k x5).bind fun bt270 => (if bt270.2.2.2.2 = 0 then (if bt270.2.2.2.1.toList = ([] : List UInt8) then (if 1 ≤ (x4.size : Int) then (if x3.length < 2932031007402 then (some (x3 ++ [(⟨x4.extract 1 x4.size, (⟨bt270.1, bt270.2.1, bt270.2.2.1⟩ : S55)⟩ : S57)])) else (none)) else (none)) else (if 1 ≤ (x4.size : Int) then (if x3.length < 2932031007402 then (event_attrs.l0 k bt270.2.2.2.1 (x3 ++ [(⟨x4.extract 1 x4.size, (⟨bt270.1, bt270.2.1, bt270.2.2.1⟩ : S55)⟩ : S57)])) else (none)) else (none))) else (some x3)))
end
def event_attrs.f (k : Nat) (a0 : ByteArray) : Option ((List (S57))) := event_attrs.l0 k a0 ([] : List (S57))
theorem event_attrs.mono_l : ∀ k, (∀ y0 y1, LeO (event_attrs.l0 k y0 y1) (event_attrs.l0 (k + 1) y0 y1)) ∧ (∀ y0 y1 y2 y3, LeO (event_attrs.j1 k y0 y1 y2 y3) (event_attrs.j1 (k + 1) y0 y1 y2 y3))
 | 0 => ⟨fun _ _ r h => by simp [event_attrs.l0] at h, fun _ _ _ _ r h => by simp [event_attrs.j1] at h⟩
 | k + 1 => by
  obtain ⟨ih0, ih1⟩ := event_attrs.mono_l k
  refine ⟨?_, ?_⟩
  all_goals intros
  all_goals first | unfold event_attrs.l0 | unfold event_attrs.j1
  all_goals repeat' first
   | (with_reducible exact ih0 _ _)
   | (with_reducible exact ih1 _ _ _ _)
   | (with_reducible exact value_Scan.mono _ _)
   | (with_reducible exact LeO.refl _)
   | (with_reducible exact LeO.none _)
   | (with_reducible refine LeO.ite ?_ ?_)
   | (with_reducible refine LeO.bind ?_ (fun _ => ?_))
   | exact ih0 _ _
   | exact ih1 _ _ _ _
   | exact value_Scan.mono _ _
   | exact LeO.none _
   | refine LeO.ite ?_ ?_
   | refine LeO.bind ?_ (fun _ => ?_)
theorem event_attrs.mono : ∀ a0 k, LeO (event_attrs.f k a0) (event_attrs.f (k + 1) a0) := by
 intro a0 k
 obtain ⟨ih0, ih1⟩ := event_attrs.mono_l k
 unfold event_attrs.f
 repeat' first
   | (with_reducible exact ih0 _ _)
   | (with_reducible exact ih1 _ _ _ _)
   | (with_reducible exact value_Scan.mono _ _)
   | (with_reducible exact LeO.refl _)
   | (with_reducible exact LeO.none _)
   | (with_reducible refine LeO.ite ?_ ?_)
   | (with_reducible refine LeO.bind ?_ (fun _ => ?_))
   | exact ih0 _ _
   | exact ih1 _ _ _ _
   | exact value_Scan.mono _ _
   | exact LeO.none _
   | refine LeO.ite ?_ ?_
   | refine LeO.bind ?_ (fun _ => ?_)
def event_attrs.T8 : Bool × List (List Nat × List Nat) := (true, [([], []), ([], []), ([1], [1]), ([], []), ([2, 3], [2, 3]), ([4], [4]), ([0, 5], [0, 5]), ([6, 6, 0, 1, 2, 3, 4, 5, 6], [6])])
def event_attrs.B8 : List Nat := [0, 0, 2, 0, 14, 30, 63, 127]
theorem event_attrs.tab8 : rtab .any (opsOf Tryz.f52 8) = event_attrs.T8 := by kernel_rfl
theorem event_attrs.bits8 : waitsOk event_attrs.T8.2 event_attrs.B8 = true := by kernel_rfl
def event_attrs.T9 : Bool × List (List Nat × List Nat) := (true, [([], []), ([], []), ([1], [1]), ([], []), ([2, 3], [2, 3]), ([4], [4]), ([0, 5], [0, 5]), ([], []), ([6, 6, 0, 1, 2, 3, 4, 5, 6], [0, 6]), ([7, 8, 0, 1, 2, 3, 4, 5, 6, 7, 8], [7])])
def event_attrs.B9 : List Nat := [0, 0, 2, 0, 14, 30, 63, 0, 127, 511]
theorem event_attrs.tab9 : rtab .any (opsOf Tryz.f52 9) = event_attrs.T9 := by kernel_rfl
theorem event_attrs.bits9 : waitsOk event_attrs.T9.2 event_attrs.B9 = true := by kernel_rfl
set_option maxHeartbeats 8000000 in
set_option maxRecDepth 100000 in
theorem event_attrs.calls (k : Nat) (a0 : ByteArray) (r : List (S57)) (w : World) (hT : Tabs w) (h : event_attrs.f k a0 = some r) :
  Calls Tryz.prog 52 #[.string a0] w fun e w' => ∃ v0_ : Value, e = .returned (v0_) ∧ Kd.R k57 57 w' w.heap.size (fun _ => True) v0_ r ∧ Below w.heap.size w w' := by
 have hu55 := Tryz.underlying55
 have hu57 := Tryz.underlying57
 have HB := Aside0.mk (Below.refl w.heap.size w)
 have H : (event_attrs.l0 k a0 ([] : List (S57))) = some r := h
 clear h
 have HT := Aside0.mk hT
 clear hT
 have H' := Aside0.mk H
 clear H
 go_enter Tryz.func52, Tryz.ntmps52
 (try go_wp2)
 go_step3
 go_wp2
 go_step3
 (try go_wp2)
 go_loopg [0, 3] k (fun kq v0 v3 w' => ∃ (x0_1 : ByteArray) (x3_1 : List (S57)), v0 = .string x0_1 ∧ Aside0 (event_attrs.l0 kq x0_1 x3_1 = some r) ∧ Aside0 (kq ≤ k) ∧ Aside0 (Kd.R k57 57 w' w.heap.size (fun _ => True) v3 x3_1) ∧ Aside0 (Below w.heap.size w w'))
 case atStart => exact ⟨(a0), (([] : List (S57))), (endS), H', ⟨Nat.le_refl _⟩, ⟨by first | exact Kd.R_nil _ _ _ _ _ | exact Kd.N_nil _ _ _ _ _ | exact Kd.V_nil _ _ _ _ _ | exact Kd.Q_nil _ _ _ _ _ | exact Kd.S_nil _ _ _ _ _⟩, ⟨bwA⟩⟩
 case round =>
  clear H'
  obtain ⟨x0_1, x3_1, rfl, HA, HK1, HO_3, HB⟩ := hrel
  cases gk with
  | zero => exact absurd HA.out (by simp [event_attrs.l0])
  | succ k1 =>
   have H := HA.out
   clear HA
   simp only [event_attrs.l0] at H
   by_cases c2 : (x3_1.length : Int) ≤ 24
   ·rw [if_pos c2] at H
    have c2b0 : decide ((x3_1.length : Int) ≤ 24) = true := decide_eq_true c2
    have c2b1 : decide (x3_1.length ≤ 24) = true := decide_eq_true (by omega)
    clear c2
    replace H := Option.bind_eq_some_iff.mp H
    obtain ⟨⟨t267, t268, t269⟩, A30, H⟩ := H
    replace H : (if t269 = true then (if (t267.size : Int) < 2 then (event_attrs.j1 k1 x3_1 t267 t268 true) else (if 0 < (t267.size : Int) then (event_attrs.j1 k1 x3_1 t267 t268 ((bt t267 0) != 32)) else (none))) else (event_attrs.j1 k1 x3_1 t267 t268 true)) = some r := H
    have A3 := Aside0.mk A30
    clear A30
    have HC4 := Aside0.mk H
    clear H
    obtain ⟨Ao5, co5, eo5⟩ := Kd.R_slice HO_3.out
    subst eo5
    go_upto_region 4 with (first | ((with_reducible refine gate_callee (f := 51) rfl ?_); refine goesA (some 15) Tryz.func51 #[.string x0_1, .string (⟨#[61]⟩ : ByteArray)] ?_; (with_reducible refine (strings_Cut.calls x0_1 (⟨#[61]⟩ : ByteArray) t267 t268 t269 _ ?side1 A3.out).mono ?_); (case side1 => exact Tabs.below HT.out (bwA)); rintro e w' ⟨rfl, ⟨nd, rfl⟩⟩; refine ⟨_, rfl, ?_⟩))
    (try simp only [Act.put, List.setIfInBounds_toArray, List.set_cons_zero, List.set_cons_succ])
    go_cut [30] (fun v30 wc => ∃ (kq : Nat) (x30_3 : Bool), v30 = .bool x30_3 ∧ Aside0 (event_attrs.j1 kq x3_1 t267 t268 x30_3 = some r) ∧ Aside0 (kq ≤ k1) ∧ Aside0 (Kd.R k57 57 wc w.heap.size (fun _ => True) (.slice Ao5 x3_1.length co5) x3_1) ∧ Aside0 (Below w.heap.size w wc))
    case first =>
     have H := HC4.out
     clear HC4
     by_cases c6 : t269 = true
     ·subst c6
      have H1 : (if (t267.size : Int) < 2 then (event_attrs.j1 k1 x3_1 t267 t268 true) else (if 0 < (t267.size : Int) then (event_attrs.j1 k1 x3_1 t267 t268 ((bt t267 0) != 32)) else (none))) = some r := by rw [if_pos rfl] at H; exact H
      clear H
      have H := H1
      clear H1
      by_cases c7 : (t267.size : Int) < 2
      ·rw [if_pos c7] at H
       have c7b0 : decide ((t267.size : Int) < 2) = true := decide_eq_true c7
       have c7b1 : decide (t267.size < 2) = true := decide_eq_true (by omega)
       clear c7
       (first | rw [c7b0] | (simp only [i64_w, i32_w]; rw [c7b0]) | skip)
       have H' := Aside0.mk H
       clear H
       go_wp2
       go_meet
       case rel => exact ⟨_, (true), (endS), H', ⟨by have := HK1.out; first | omega | exact Nat.le_refl _⟩, ⟨by (with_reducible repeat (first | apply Kd.R_alloc | apply Kd.R_drewN | apply Kd.R_drew)); exact HO_3.out⟩, ⟨bwA⟩⟩
      ·rw [if_neg c7] at H
       have c7b0 : decide ((t267.size : Int) < 2) = false := decide_eq_false c7
       have c7b1 : decide (t267.size < 2) = false := decide_eq_false (by omega)
       clear c7
       (first | rw [c7b0] | (simp only [i64_w, i32_w]; rw [c7b0]) | skip)
       by_cases c8 : 0 < (t267.size : Int)
       ·rw [if_pos c8] at H
        have c8b0 : decide (0 < (t267.size : Int)) = true := decide_eq_true c8
        have c8b1 : decide (0 < t267.size) = true := decide_eq_true (by omega)
        clear c8
        have H' := Aside0.mk H
        clear H
        have p9 : 0 ≤ (0 : Int) := (by omega)
        have q9 : 0 < t267.size := (by have : (0 : Int) < (t267.size : Int) := odA; omega)
        have hx9 : ∀ h : 0 < t267.size, ((t267[0]'h).toNat : Int) = bt t267 0 := bt_at t267 0
        clear p9
        have qi9 : (0 < (t267.size : Int)) = True := eq_true (odA)
        replace q9 := eq_true q9
        go_wp2
        go_meet
        case rel => exact ⟨_, (((bt t267 0) != 32)), (endS), H', ⟨by have := HK1.out; first | omega | exact Nat.le_refl _⟩, ⟨by (with_reducible repeat (first | apply Kd.R_alloc | apply Kd.R_drewN | apply Kd.R_drew)); exact HO_3.out⟩, ⟨bwA⟩⟩
       ·rw [if_neg c8] at H
        exact absurd H (by simp)
     ·replace c6 := Bool.eq_false_iff.mpr c6
      subst c6
      have H1 : (event_attrs.j1 k1 x3_1 t267 t268 true) = some r := by rw [if_neg (show ¬ (false = true) by decide)] at H; exact H
      clear H
      have H := H1
      clear H1
      have H' := Aside0.mk H
      clear H
      go_wp2
      go_meet
      case rel => exact ⟨_, (true), (endS), H', ⟨by have := HK1.out; first | omega | exact Nat.le_refl _⟩, ⟨by (with_reducible repeat (first | apply Kd.R_alloc | apply Kd.R_drewN | apply Kd.R_drew)); exact HO_3.out⟩, ⟨bwA⟩⟩
    case rest =>
     clear HC4
     try clear c2
     try clear c2b0
     try clear c2b1
     try clear p2
     try clear c5
     try clear c6
     try clear c7
     try clear c7b0
     try clear c7b1
     try clear c8
     try clear c8b0
     try clear c8b1
     try clear p9
     try clear q9
     try clear hx9
     try clear qi9
     try clear p9
     try clear q9
     obtain ⟨kq, x30_3, rfl, HA, HJ3, HO_3, HB⟩ := hcut
     cases kq with
     | zero => exact absurd HA.out (by simp [event_attrs.j1])
     | succ kj3 =>
      have H := HA.out
      clear HA
      simp only [event_attrs.j1] at H
      by_cases c10 : x30_3 = true
      ·subst c10
       have H1 : (some x3_1) = some r := by rw [if_pos rfl] at H; exact H
       clear H
       have H := H1
       clear H1
       obtain rfl := Option.some.inj H
       go_wp2
       (try rw [Exit.noGoto_ret])
       go_ret
       exact ⟨_, endA, by (with_reducible repeat (first | apply Kd.R_alloc | apply Kd.R_drewN | apply Kd.R_drew)); exact HO_3.out, bwA⟩
      ·replace c10 := Bool.eq_false_iff.mpr c10
       subst c10
       have H1 : ((value_Scan.f kj3 t268).bind fun bt270 => (if bt270.2.2.2.2 = 0 then (if bt270.2.2.2.1.toList = ([] : List UInt8) then (if 1 ≤ (t267.size : Int) then (if x3_1.length < 2932031007402 then (some (x3_1 ++ [(⟨t267.extract 1 t267.size, (⟨bt270.1, bt270.2.1, bt270.2.2.1⟩ : S55)⟩ : S57)])) else (none)) else (none)) else (if 1 ≤ (t267.size : Int) then (if x3_1.length < 2932031007402 then (event_attrs.l0 kj3 bt270.2.2.2.1 (x3_1 ++ [(⟨t267.extract 1 t267.size, (⟨bt270.1, bt270.2.1, bt270.2.2.1⟩ : S55)⟩ : S57)])) else (none)) else (none))) else (some x3_1))) = some r := by rw [if_neg (show ¬ (false = true) by decide)] at H; exact H
       clear H
       have H := H1
       clear H1
       replace H := Option.bind_eq_some_iff.mp H
       obtain ⟨⟨t270, t271, t272, t273, t274⟩, A110, H⟩ := H
       replace H : (if t274 = 0 then (if t273.toList = ([] : List UInt8) then (if 1 ≤ (t267.size : Int) then (if x3_1.length < 2932031007402 then (some (x3_1 ++ [(⟨t267.extract 1 t267.size, (⟨t270, t271, t272⟩ : S55)⟩ : S57)])) else (none)) else (none)) else (if 1 ≤ (t267.size : Int) then (if x3_1.length < 2932031007402 then (event_attrs.l0 kj3 t273 (x3_1 ++ [(⟨t267.extract 1 t267.size, (⟨t270, t271, t272⟩ : S55)⟩ : S57)])) else (none)) else (none))) else (some x3_1)) = some r := H
       have A11 := Aside0.mk A110
       clear A110
       by_cases c12 : t274 = 0
       ·rw [if_pos c12] at H
        have c12b0 : (t274 == 0) = true := beq_iff_eq.mpr c12
        have c12b1 : (t274 != 0) = false := bne_eq_false_iff_eq.mpr c12
        clear c12
        by_cases c13 : t273.toList = ([] : List UInt8)
        ·rw [if_pos c13] at H
         have c13b0 : (t273.toList == ([] : List UInt8)) = true := beq_iff_eq.mpr c13
         have c13b1 : (t273.toList != ([] : List UInt8)) = false := bne_eq_false_iff_eq.mpr c13
         clear c13
         by_cases c14 : 1 ≤ (t267.size : Int)
         ·rw [if_pos c14] at H
          have c14b0 := eq_true c14
          have c14b1 : decide (1 ≤ (t267.size : Int)) = true := decide_eq_true c14
          clear c14
          by_cases c15 : x3_1.length < 2932031007402
          ·rw [if_pos c15] at H
           have LMc15 := Aside0.mk c15
           clear c15
           obtain ⟨y276, hy276⟩ : ∃ y_ : List (S57), y_ = (x3_1 ++ [(⟨t267.extract 1 t267.size, (⟨t270, t271, t272⟩ : S55)⟩ : S57)]) := ⟨_, rfl⟩
           replace H : (some y276) = some r := by first | (rw [hy276]; with_reducible exact H) | (have H2_ := (Option.bind_some _ _).symm.trans H; rw [hy276]; with_reducible exact H2_) | (have H2_ := (Option.bind_some _ _).symm.trans H; with_reducible exact H2_) | with_reducible exact H | (rw [hy276]; exact H) | exact H
           have Ny276 := Aside0.mk hy276
           clear hy276
           obtain rfl := Option.some.inj H
           try go_wp2_with (first | ((with_reducible refine gate_callee (f := 87) rfl ?_); refine goesA (some 33) Tryz.func87 #[.string t268] ?_; (with_reducible refine (value_Scan.calls kj3 t268 t270 t271 t272 t273 t274 _ ?side1 A11.out).mono ?_); (case side1 => exact Tabs.below HT.out (bwA)); rintro e w16 ⟨rfl, hb⟩; refine ⟨_, rfl, ?_⟩; have n0_ := Aside0.mk (Kd.R_below (by (with_reducible repeat (first | apply Kd.R_alloc | apply Kd.R_drewN | apply Kd.R_drew)); exact HO_3.out) hb); have n1_ := Aside0.mk (below_step (bwA) hb); clear HO_3; clear HB; have HO_3 := n0_; have HB := n1_; clear n0_ n1_; (try clear hb); (try clear hb2); (try clear hk); (try clear hi)) | ((with_reducible refine gate_dst (N := 7) rfl ?_); (try (refine gate_guard (by rfl) ?_; dsimp only)); refine box_event ?hg (N := 7) ?hd (cs := #[.int .i64 0, .int .i64 0, .string (⟨#[]⟩ : ByteArray)]) (t := 55) ?hr ?_; (case hd => rfl); (case hg => rfl); (case hr => first | (go_simp; done) | (go_simp; rfl)); intro gb275 hg w17 hbox hb; have n0_ := Aside0.mk (Kd.R_below (by (with_reducible repeat (first | apply Kd.R_alloc | apply Kd.R_drewN | apply Kd.R_drew)); exact HO_3.out) hb); have n1_ := Aside0.mk (below_step (bwA) hb); have n2_ := Aside0.mk (hbox); have n3_ := Aside0.mk ((by rw [hg]; exact (below_size (bwA)) : w.heap.size ≤ gb275)); have n4_ := Aside0.mk ((by rw [hg]; exact (below_size (bwA)) : w.heap.size ≤ gb275)); clear HO_3; clear HB; have HO_3 := n0_; have HB := n1_; have BK275 := n2_; have GW275 := n3_; have GE275 := n4_; clear n0_ n1_ n2_ n3_ n4_; clear hb hbox hg; have hcz18_0 : w17.cell? ⟨gb275, 0, none⟩ = some (.int .i64 0) := (blk_cell BK275.out 0).trans rfl; have hcz18_1 : w17.cell? ⟨gb275, 1, none⟩ = some (.int .i64 0) := (blk_cell BK275.out 1).trans rfl; have hcz18_2 : w17.cell? ⟨gb275, 2, none⟩ = some (.string (⟨#[]⟩ : ByteArray)) := (blk_cell BK275.out 2).trans rfl; have hfz18_0 := blk_frozen BK275.out 0; have hfz18_1 := blk_frozen BK275.out 1; have hfz18_2 := blk_frozen BK275.out 2))
           have n0_ : Aside0 (Kd.R k57 57 (((w17.setCell ⟨gb275, 0, none⟩ (.int .i64 t270)).setCell ⟨gb275, 1, none⟩ (.int .i64 t271)).setCell ⟨gb275, 2, none⟩ (.string t272)) w.heap.size (fun _ => True) (.slice Ao5 x3_1.length co5) x3_1) := ⟨by (with_reducible repeat (first | apply Kd.R_alloc | apply Kd.R_drewN | apply Kd.R_drew)); exact Kd.R_mono (Kd.R_far (p := ⟨gb275, 2, none⟩) (Kd.R_far (p := ⟨gb275, 1, none⟩) (Kd.R_far (p := ⟨gb275, 0, none⟩) (Kd.R_types HO_3.out BK275.out (by decide)) (fun _ hk => hk.2) (.int .i64 t270)) (fun _ hk => hk.2) (.int .i64 t271)) (fun _ hk => hk.2) (.string t272)) (fun _ hk => trivial)⟩
           have n1_ : Aside0 ((((w17.setCell ⟨gb275, 0, none⟩ (.int .i64 t270)).setCell ⟨gb275, 1, none⟩ (.int .i64 t271)).setCell ⟨gb275, 2, none⟩ (.string t272)).heap[gb275]? = some (.cells #[.int .i64 t270, .int .i64 t271, .string t272] 55 (0, 0))) := ⟨by (with_reducible repeat (first | refine blk_drewN ?_ _ | refine blk_drew ?_ | refine blk_alloc ?_ _)); refine blk_put (cs := #[.int .i64 t270, .int .i64 t271, .string (⟨#[]⟩ : ByteArray)]) ?_ 2 _ rfl; (with_reducible repeat (first | refine blk_drewN ?_ _ | refine blk_drew ?_ | refine blk_alloc ?_ _)); refine blk_put (cs := #[.int .i64 t270, .int .i64 0, .string (⟨#[]⟩ : ByteArray)]) ?_ 1 _ rfl; (with_reducible repeat (first | refine blk_drewN ?_ _ | refine blk_drew ?_ | refine blk_alloc ?_ _)); refine blk_put (cs := #[.int .i64 0, .int .i64 0, .string (⟨#[]⟩ : ByteArray)]) ?_ 0 _ rfl; (with_reducible repeat (first | refine blk_drewN ?_ _ | refine blk_drew ?_ | refine blk_alloc ?_ _)); exact BK275.out⟩
           have n2_ : Aside0 (Below w.heap.size w (((w17.setCell ⟨gb275, 0, none⟩ (.int .i64 t270)).setCell ⟨gb275, 1, none⟩ (.int .i64 t271)).setCell ⟨gb275, 2, none⟩ (.string t272))) := ⟨bwA⟩
           (try clear HO_3)
           (try clear BK275)
           (try clear HB)
           generalize (((w17.setCell ⟨gb275, 0, none⟩ (.int .i64 t270)).setCell ⟨gb275, 1, none⟩ (.int .i64 t271)).setCell ⟨gb275, 2, none⟩ (.string t272)) = w19 at n0_ n1_ n2_ ⊢
           have HO_3 := n0_
           have BK275 := n1_
           have HB := n2_
           clear n0_ n1_ n2_
           have n0_ := Aside0.mk (Kd.R_drew HO_3.out)
           have n1_ := Aside0.mk (blk_drew BK275.out)
           have n2_ := Aside0.mk (below_drew1 HB.out)
           clear HO_3
           clear BK275
           clear HB
           have HO_3 := n0_
           have BK275 := n1_
           have HB := n2_
           clear n0_ n1_ n2_
           refine start_ (n := 8) (S := fun w' => w'.cell? ⟨gb275, 0, none⟩ = some (.int .i64 t270) ∧ w'.cell? ⟨gb275, 1, none⟩ = some (.int .i64 t271) ∧ w'.cell? ⟨gb275, 2, none⟩ = some (.string t272)) (ds := []) (mkB 8 0) (by kernel_rfl) rfl rfl ⟨(blk_cell BK275.out 0).trans rfl, (blk_cell BK275.out 1).trans rfl, (blk_cell BK275.out 2).trans rfl⟩ (fun hHeld => ?_); refine with_tabW event_attrs.tab8 event_attrs.bits8 (fun HT_ HW_ => ?_)
           generalize w19.drew = w20 at HO_3 BK275 HB hHeld ⊢
           refine pureA 0 (some 43) (mkB 8 1) ?_
           refine pureA 1 (some 44) (mkB 8 3) ?_
           refine pureA 2 (some 45) (mkB 8 7) ?_
           refine takeA 3 (some 46) (mkB 8 15) ?_ rfl (Or.inl ⟨by rfl, by rintro w' ⟨s0, s1, s2⟩; go_simp; with_reducible rfl⟩)
           refine pureA 4 (some 47) (mkB 8 31) ?_
           refine oneA 5 (some 48) (mkB 8 63) (fun K hK => ?_)
           refine value_ (w1 := ?_) (v := ?_) (by rfl) rfl ?_ ?_
           rotate_left 2
           ·go_simp
            constructor
            ·rfl
            ·rfl
           refine hK.out _ _ ⟨(blk_cell (blk_alloc BK275.out _) 0).trans rfl, (blk_cell (blk_alloc BK275.out _) 1).trans rfl, (blk_cell (blk_alloc BK275.out _) 2).trans rfl⟩ (fun hHeld => ?_)
           clear hK K
           refine normA ?_
           refine oneA 6 (some 49) (mkB 8 127) (fun K hK => ?_)
           refine Kd.R_append_step k57 (w0 := w) w.heap.size (by rfl) (.tmp 43) (.tmp 48) 25 57 (.agg #[(.string ⟨#[]⟩), (.int .i64 0), (.int .i64 0), (.string ⟨#[]⟩)]) 48 rfl Tryz.underlying25 info57 rfl (by decide) (by omega) (.slice Ao5 x3_1.length co5) x3_1 (⟨t267.extract 1 t267.size, (⟨t270, t271, t272⟩ : S55)⟩ : S57) [.string (t267.extract 1 t267.size), .int .i64 t270, .int .i64 t271, .string t272] (fun _ => True) (fun _ => False) rfl rfl ?aP (fun _ hk => hk.elim) ?aF ?aO ?aB ?aS ?aL ?_
           (case aP => exact k57_mkM _ _ _ (⟨t267.extract 1 t267.size, (⟨t270, t271, t272⟩ : S55)⟩ : S57))
           (case aB => exact (bwA))
           (case aF => exact (fun _ _ => trivial))
           (case aO => exact (by (with_reducible repeat (first | apply Kd.R_alloc | apply Kd.R_drewN | apply Kd.R_drew)); exact HO_3.out))
           (case aS => exact (below_size (bwA)))
           (case aL => have := LMc15.out; omega)
           intro v277 w21 ho hb hg hat
           rw [← Ny276.out] at ho
           have n0_ := Aside0.mk (blk_grown (g := gb275) (o := .cells #[.int .i64 t270, .int .i64 t271, .string t272] 55 (0, 0)) blkA hg (Kd.R_ne HO_3.out BK275.out (by decide)))
           have n1_ := Aside0.mk (hb)
           have n2_ := Aside0.mk (ho)
           clear BK275
           clear HB
           clear HO_3
           have BK275 := n0_
           have HB := n1_
           have HO278 := n2_
           clear n0_ n1_ n2_
           clear ho hb hg hat
           refine hK.out _ _ ⟨(blk_cell BK275.out 0).trans rfl, (blk_cell BK275.out 1).trans rfl, (blk_cell BK275.out 2).trans rfl⟩ (fun hHeld => ?_)
           clear hK K
           refine norm_ (by simp only [putAll, Act.put, List.setIfInBounds_toArray, List.set_cons_zero, List.set_cons_succ, List.getElem_toArray, List.getElem_cons_zero, List.getElem_cons_succ]; rfl) ?_
           refine pureA 7 (some 2) (mkB 8 255) ?_
           refine done_ (done_of HT_.out (by kernel_rfl)) ?_
           try go_wp2
           (try rw [Exit.noGoto_ret])
           go_ret
           exact ⟨_, endA, by (with_reducible repeat (first | apply Kd.R_alloc | apply Kd.R_drewN | apply Kd.R_drew)); exact HO278.out, bwA⟩
          ·rw [if_neg c15] at H
           exact absurd H (by simp)
         ·rw [if_neg c14] at H
          exact absurd H (by simp)
        ·rw [if_neg c13] at H
         have c13b0 : (t273.toList == ([] : List UInt8)) = false := beq_eq_false_iff_ne.mpr c13
         have c13b1 : (t273.toList != ([] : List UInt8)) = true := bne_iff_ne.mpr c13
         by_cases c22 : 1 ≤ (t267.size : Int)
         ·rw [if_pos c22] at H
          have c22b0 := eq_true c22
          have c22b1 : decide (1 ≤ (t267.size : Int)) = true := decide_eq_true c22
          clear c22
          by_cases c23 : x3_1.length < 2932031007402
          ·rw [if_pos c23] at H
           have LMc23 := Aside0.mk c23
           clear c23
           obtain ⟨y279, hy279⟩ : ∃ y_ : List (S57), y_ = (x3_1 ++ [(⟨t267.extract 1 t267.size, (⟨t270, t271, t272⟩ : S55)⟩ : S57)]) := ⟨_, rfl⟩
           replace H : (event_attrs.l0 kj3 t273 y279) = some r := by first | (rw [hy279]; with_reducible exact H) | (have H2_ := (Option.bind_some _ _).symm.trans H; rw [hy279]; with_reducible exact H2_) | (have H2_ := (Option.bind_some _ _).symm.trans H; with_reducible exact H2_) | with_reducible exact H | (rw [hy279]; exact H) | exact H
           have Ny279 := Aside0.mk hy279
           clear hy279
           have H' := Aside0.mk H
           clear H
           try go_wp2_with (first | ((with_reducible refine gate_callee (f := 87) rfl ?_); refine goesA (some 33) Tryz.func87 #[.string t268] ?_; (with_reducible refine (value_Scan.calls kj3 t268 t270 t271 t272 t273 t274 _ ?side1 A11.out).mono ?_); (case side1 => exact Tabs.below HT.out (bwA)); rintro e w24 ⟨rfl, hb⟩; refine ⟨_, rfl, ?_⟩; have n0_ := Aside0.mk (Kd.R_below (by (with_reducible repeat (first | apply Kd.R_alloc | apply Kd.R_drewN | apply Kd.R_drew)); exact HO_3.out) hb); have n1_ := Aside0.mk (below_step (bwA) hb); clear HO_3; clear HB; have HO_3 := n0_; have HB := n1_; clear n0_ n1_; (try clear hb); (try clear hb2); (try clear hk); (try clear hi)) | ((with_reducible refine gate_dst (N := 7) rfl ?_); (try (refine gate_guard (by rfl) ?_; dsimp only)); refine box_event ?hg (N := 7) ?hd (cs := #[.int .i64 0, .int .i64 0, .string (⟨#[]⟩ : ByteArray)]) (t := 55) ?hr ?_; (case hd => rfl); (case hg => rfl); (case hr => first | (go_simp; done) | (go_simp; rfl)); intro gb275 hg w25 hbox hb; have n0_ := Aside0.mk (Kd.R_below (by (with_reducible repeat (first | apply Kd.R_alloc | apply Kd.R_drewN | apply Kd.R_drew)); exact HO_3.out) hb); have n1_ := Aside0.mk (below_step (bwA) hb); have n2_ := Aside0.mk (hbox); have n3_ := Aside0.mk ((by rw [hg]; exact (below_size (bwA)) : w.heap.size ≤ gb275)); have n4_ := Aside0.mk ((by rw [hg]; exact (below_size (bwA)) : w.heap.size ≤ gb275)); clear HO_3; clear HB; have HO_3 := n0_; have HB := n1_; have BK275 := n2_; have GW275 := n3_; have GE275 := n4_; clear n0_ n1_ n2_ n3_ n4_; clear hb hbox hg; have hcz26_0 : w25.cell? ⟨gb275, 0, none⟩ = some (.int .i64 0) := (blk_cell BK275.out 0).trans rfl; have hcz26_1 : w25.cell? ⟨gb275, 1, none⟩ = some (.int .i64 0) := (blk_cell BK275.out 1).trans rfl; have hcz26_2 : w25.cell? ⟨gb275, 2, none⟩ = some (.string (⟨#[]⟩ : ByteArray)) := (blk_cell BK275.out 2).trans rfl; have hfz26_0 := blk_frozen BK275.out 0; have hfz26_1 := blk_frozen BK275.out 1; have hfz26_2 := blk_frozen BK275.out 2))
           have n0_ : Aside0 (Kd.R k57 57 (((w25.setCell ⟨gb275, 0, none⟩ (.int .i64 t270)).setCell ⟨gb275, 1, none⟩ (.int .i64 t271)).setCell ⟨gb275, 2, none⟩ (.string t272)) w.heap.size (fun _ => True) (.slice Ao5 x3_1.length co5) x3_1) := ⟨by (with_reducible repeat (first | apply Kd.R_alloc | apply Kd.R_drewN | apply Kd.R_drew)); exact Kd.R_mono (Kd.R_far (p := ⟨gb275, 2, none⟩) (Kd.R_far (p := ⟨gb275, 1, none⟩) (Kd.R_far (p := ⟨gb275, 0, none⟩) (Kd.R_types HO_3.out BK275.out (by decide)) (fun _ hk => hk.2) (.int .i64 t270)) (fun _ hk => hk.2) (.int .i64 t271)) (fun _ hk => hk.2) (.string t272)) (fun _ hk => trivial)⟩
           have n1_ : Aside0 ((((w25.setCell ⟨gb275, 0, none⟩ (.int .i64 t270)).setCell ⟨gb275, 1, none⟩ (.int .i64 t271)).setCell ⟨gb275, 2, none⟩ (.string t272)).heap[gb275]? = some (.cells #[.int .i64 t270, .int .i64 t271, .string t272] 55 (0, 0))) := ⟨by (with_reducible repeat (first | refine blk_drewN ?_ _ | refine blk_drew ?_ | refine blk_alloc ?_ _)); refine blk_put (cs := #[.int .i64 t270, .int .i64 t271, .string (⟨#[]⟩ : ByteArray)]) ?_ 2 _ rfl; (with_reducible repeat (first | refine blk_drewN ?_ _ | refine blk_drew ?_ | refine blk_alloc ?_ _)); refine blk_put (cs := #[.int .i64 t270, .int .i64 0, .string (⟨#[]⟩ : ByteArray)]) ?_ 1 _ rfl; (with_reducible repeat (first | refine blk_drewN ?_ _ | refine blk_drew ?_ | refine blk_alloc ?_ _)); refine blk_put (cs := #[.int .i64 0, .int .i64 0, .string (⟨#[]⟩ : ByteArray)]) ?_ 0 _ rfl; (with_reducible repeat (first | refine blk_drewN ?_ _ | refine blk_drew ?_ | refine blk_alloc ?_ _)); exact BK275.out⟩
           have n2_ : Aside0 (Below w.heap.size w (((w25.setCell ⟨gb275, 0, none⟩ (.int .i64 t270)).setCell ⟨gb275, 1, none⟩ (.int .i64 t271)).setCell ⟨gb275, 2, none⟩ (.string t272))) := ⟨bwA⟩
           (try clear HO_3)
           (try clear BK275)
           (try clear HB)
           generalize (((w25.setCell ⟨gb275, 0, none⟩ (.int .i64 t270)).setCell ⟨gb275, 1, none⟩ (.int .i64 t271)).setCell ⟨gb275, 2, none⟩ (.string t272)) = w27 at n0_ n1_ n2_ ⊢
           have HO_3 := n0_
           have BK275 := n1_
           have HB := n2_
           clear n0_ n1_ n2_
           have n0_ := Aside0.mk (Kd.R_drew HO_3.out)
           have n1_ := Aside0.mk (blk_drew BK275.out)
           have n2_ := Aside0.mk (below_drew1 HB.out)
           clear HO_3
           clear BK275
           clear HB
           have HO_3 := n0_
           have BK275 := n1_
           have HB := n2_
           clear n0_ n1_ n2_
           refine start_ (n := 10) (S := fun w' => w'.cell? ⟨gb275, 0, none⟩ = some (.int .i64 t270) ∧ w'.cell? ⟨gb275, 1, none⟩ = some (.int .i64 t271) ∧ w'.cell? ⟨gb275, 2, none⟩ = some (.string t272)) (ds := []) (mkB 10 0) (by kernel_rfl) rfl rfl ⟨(blk_cell BK275.out 0).trans rfl, (blk_cell BK275.out 1).trans rfl, (blk_cell BK275.out 2).trans rfl⟩ (fun hHeld => ?_); refine with_tabW event_attrs.tab9 event_attrs.bits9 (fun HT_ HW_ => ?_)
           generalize w27.drew = w28 at HO_3 BK275 HB hHeld ⊢
           refine pureA 0 (some 50) (mkB 10 1) ?_
           refine pureA 1 (some 51) (mkB 10 3) ?_
           refine pureA 2 (some 52) (mkB 10 7) ?_
           refine pureA 7 (some 57) (mkB 10 135) ?_
           refine takeA 3 (some 53) (mkB 10 143) ?_ rfl (Or.inl ⟨by rfl, by rintro w' ⟨s0, s1, s2⟩; go_simp; with_reducible rfl⟩)
           refine pureA 4 (some 54) (mkB 10 159) ?_
           refine oneA 5 (some 55) (mkB 10 191) (fun K hK => ?_)
           refine value_ (w1 := ?_) (v := ?_) (by rfl) rfl ?_ ?_
           rotate_left 2
           ·go_simp
            constructor
            ·rfl
            ·rfl
           refine hK.out _ _ ⟨(blk_cell (blk_alloc BK275.out _) 0).trans rfl, (blk_cell (blk_alloc BK275.out _) 1).trans rfl, (blk_cell (blk_alloc BK275.out _) 2).trans rfl⟩ (fun hHeld => ?_)
           clear hK K
           refine normA ?_
           refine oneA 6 (some 56) (mkB 10 255) (fun K hK => ?_)
           refine Kd.R_append_step k57 (w0 := w) w.heap.size (by rfl) (.tmp 50) (.tmp 55) 25 57 (.agg #[(.string ⟨#[]⟩), (.int .i64 0), (.int .i64 0), (.string ⟨#[]⟩)]) 48 rfl Tryz.underlying25 info57 rfl (by decide) (by omega) (.slice Ao5 x3_1.length co5) x3_1 (⟨t267.extract 1 t267.size, (⟨t270, t271, t272⟩ : S55)⟩ : S57) [.string (t267.extract 1 t267.size), .int .i64 t270, .int .i64 t271, .string t272] (fun _ => True) (fun _ => False) rfl rfl ?aP (fun _ hk => hk.elim) ?aF ?aO ?aB ?aS ?aL ?_
           (case aP => exact k57_mkM _ _ _ (⟨t267.extract 1 t267.size, (⟨t270, t271, t272⟩ : S55)⟩ : S57))
           (case aB => exact (bwA))
           (case aF => exact (fun _ _ => trivial))
           (case aO => exact (by (with_reducible repeat (first | apply Kd.R_alloc | apply Kd.R_drewN | apply Kd.R_drew)); exact HO_3.out))
           (case aS => exact (below_size (bwA)))
           (case aL => have := LMc23.out; omega)
           intro v280 w29 ho hb hg hat
           rw [← Ny279.out] at ho
           have n0_ := Aside0.mk (blk_grown (g := gb275) (o := .cells #[.int .i64 t270, .int .i64 t271, .string t272] 55 (0, 0)) blkA hg (Kd.R_ne HO_3.out BK275.out (by decide)))
           have n1_ := Aside0.mk (hb)
           have n2_ := Aside0.mk (ho)
           clear BK275
           clear HB
           clear HO_3
           have BK275 := n0_
           have HB := n1_
           have HO281 := n2_
           clear n0_ n1_ n2_
           clear ho hb hg hat
           refine hK.out _ _ ⟨(blk_cell BK275.out 0).trans rfl, (blk_cell BK275.out 1).trans rfl, (blk_cell BK275.out 2).trans rfl⟩ (fun hHeld => ?_)
           clear hK K
           refine norm_ (by simp only [putAll, Act.put, List.setIfInBounds_toArray, List.set_cons_zero, List.set_cons_succ, List.getElem_toArray, List.getElem_cons_zero, List.getElem_cons_succ]; rfl) ?_
           refine pureA 8 (some 3) (mkB 10 511) ?_
           refine pureA 9 (some 0) (mkB 10 1023) ?_
           refine done_ (done_of HT_.out (by kernel_rfl)) ?_
           try go_wp2
           go_roundg kj3
           case measure => have := HK1.out; have := HJ3.out; omega
           case rel => exact ⟨(t273), (y279), (endS), H', ⟨by have := HK1.out; have := HJ3.out; omega⟩, ⟨by (with_reducible repeat (first | apply Kd.R_alloc | apply Kd.R_drewN | apply Kd.R_drew)); exact HO281.out⟩, ⟨bwA⟩⟩
          ·rw [if_neg c23] at H
           exact absurd H (by simp)
         ·rw [if_neg c22] at H
          exact absurd H (by simp)
       ·rw [if_neg c12] at H
        have c12b0 : (t274 == 0) = false := beq_eq_false_iff_ne.mpr c12
        have c12b1 : (t274 != 0) = true := bne_iff_ne.mpr c12
        obtain rfl := Option.some.inj H
        go_wp2_with (first | ((with_reducible refine gate_callee (f := 87) rfl ?_); refine goesA (some 33) Tryz.func87 #[.string t268] ?_; (with_reducible refine (value_Scan.calls kj3 t268 t270 t271 t272 t273 t274 _ ?side1 A11.out).mono ?_); (case side1 => exact Tabs.below HT.out (bwA)); rintro e w30 ⟨rfl, hb⟩; refine ⟨_, rfl, ?_⟩; have n0_ := Aside0.mk (Kd.R_below (by (with_reducible repeat (first | apply Kd.R_alloc | apply Kd.R_drewN | apply Kd.R_drew)); exact HO_3.out) hb); have n1_ := Aside0.mk (below_step (bwA) hb); clear HO_3; clear HB; have HO_3 := n0_; have HB := n1_; clear n0_ n1_; (try clear hb); (try clear hb2); (try clear hk); (try clear hi)) | ((with_reducible refine gate_dst (N := 7) rfl ?_); (try (refine gate_guard (by rfl) ?_; dsimp only)); refine box_event ?hg (N := 7) ?hd (cs := #[.int .i64 0, .int .i64 0, .string (⟨#[]⟩ : ByteArray)]) (t := 55) ?hr ?_; (case hd => rfl); (case hg => rfl); (case hr => first | (go_simp; done) | (go_simp; rfl)); intro gb275 hg w31 hbox hb; have n0_ := Aside0.mk (Kd.R_below (by (with_reducible repeat (first | apply Kd.R_alloc | apply Kd.R_drewN | apply Kd.R_drew)); exact HO_3.out) hb); have n1_ := Aside0.mk (below_step (bwA) hb); have n2_ := Aside0.mk (hbox); have n3_ := Aside0.mk ((by rw [hg]; exact (below_size (bwA)) : w.heap.size ≤ gb275)); have n4_ := Aside0.mk ((by rw [hg]; exact (below_size (bwA)) : w.heap.size ≤ gb275)); clear HO_3; clear HB; have HO_3 := n0_; have HB := n1_; have BK275 := n2_; have GW275 := n3_; have GE275 := n4_; clear n0_ n1_ n2_ n3_ n4_; clear hb hbox hg; have hcz32_0 : w31.cell? ⟨gb275, 0, none⟩ = some (.int .i64 0) := (blk_cell BK275.out 0).trans rfl; have hcz32_1 : w31.cell? ⟨gb275, 1, none⟩ = some (.int .i64 0) := (blk_cell BK275.out 1).trans rfl; have hcz32_2 : w31.cell? ⟨gb275, 2, none⟩ = some (.string (⟨#[]⟩ : ByteArray)) := (blk_cell BK275.out 2).trans rfl; have hfz32_0 := blk_frozen BK275.out 0; have hfz32_1 := blk_frozen BK275.out 1; have hfz32_2 := blk_frozen BK275.out 2))
        (try rw [Exit.noGoto_ret])
        go_ret
        exact ⟨_, endA, by (with_reducible repeat (first | apply Kd.R_alloc | apply Kd.R_drewN | apply Kd.R_drew)); exact Kd.R_mono (Kd.R_far (p := ⟨gb275, 2, none⟩) (Kd.R_far (p := ⟨gb275, 1, none⟩) (Kd.R_far (p := ⟨gb275, 0, none⟩) (Kd.R_types HO_3.out BK275.out (by decide)) (fun _ hk => hk.2) (.int .i64 t270)) (fun _ hk => hk.2) (.int .i64 t271)) (fun _ hk => hk.2) (.string t272)) (fun _ hk => trivial), bwA⟩
   ·rw [if_neg c2] at H
    have c2b0 : decide ((x3_1.length : Int) ≤ 24) = false := decide_eq_false c2
    have c2b1 : decide (x3_1.length ≤ 24) = false := decide_eq_false (by omega)
    clear c2
    obtain rfl := Option.some.inj H
    obtain ⟨Ao33, co33, eo33⟩ := Kd.R_slice HO_3.out
    subst eo33
    go_wp2
    (try rw [Exit.noGoto_ret])
    go_ret
    exact ⟨_, endA, by (with_reducible repeat (first | apply Kd.R_alloc | apply Kd.R_drewN | apply Kd.R_drew)); exact HO_3.out, bwA⟩

end Go.Proofs.YtplemgmfnghoeaaGreatDoor.A
