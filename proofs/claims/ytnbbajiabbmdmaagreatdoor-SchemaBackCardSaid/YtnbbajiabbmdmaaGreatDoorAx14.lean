-- By drv.py, the session's own driver round the kit's print: the machine's side of the laws, function by function. Not trusted: Lean checks it.
import Derived.Test.YtnbbajiabbmdmaaGreatDoorAx0
namespace Go.Proofs.YtnbbajiabbmdmaaGreatDoor.A
open Go.RowKit Go.Proofs.YtnbbajiabbmdmaaGreatDoorW.PrintWords Go.Proofs.YtnbbajiabbmdmaaGreatDoorW.PrintLast Go.Proofs.YtnbbajiabbmdmaaGreatDoorW.PrintMore
attribute [local go_sem] max2_int min2_int max_two min_two max_three min_three max_four min_four   -- for this text's walks alone
set_option linter.unusedVariables false
set_option linter.unusedSimpArgs false

/-! ### caduceuslaw04_FewAttrs: function 16 -/
def caduceuslaw04_FewAttrs.l0 : Nat → List (S44) → Int → Option (Bool)
 | 0, _, _ => none
 | k + 1, x0, x3 => if x3 < (x0.length : Int) then (if x3 > 40 then (some false) else (if 0 ≤ x3 then (if (((rd_T44 x0 x3).f0).size : Int) > 200 then (some false) else (if (((rd_T44 x0 x3).f1.f2).size : Int) > 500 then (some false) else (caduceuslaw04_FewAttrs.l0 k x0 (wrap64 (x3 + 1))))) else (none))) else (some true)
def caduceuslaw04_FewAttrs.f (k : Nat) (l0 : List (S44)) : Option (Bool) := caduceuslaw04_FewAttrs.l0 k l0 0
theorem caduceuslaw04_FewAttrs.mono_l : ∀ k, (∀ y0 y1, LeO (caduceuslaw04_FewAttrs.l0 k y0 y1) (caduceuslaw04_FewAttrs.l0 (k + 1) y0 y1))
 | 0 => fun _ _ r h => by simp [caduceuslaw04_FewAttrs.l0] at h
 | k + 1 => by
  have ih0 := caduceuslaw04_FewAttrs.mono_l k
  ·intro y0 y1
   unfold caduceuslaw04_FewAttrs.l0
   repeat' first
   | (with_reducible exact ih0 _ _)
   | (with_reducible exact LeO.refl _)
   | (with_reducible exact LeO.none _)
   | (with_reducible refine LeO.ite ?_ ?_)
   | (with_reducible refine LeO.bind ?_ (fun _ => ?_))
   | exact ih0 _ _
   | exact LeO.none _
   | refine LeO.ite ?_ ?_
   | refine LeO.bind ?_ (fun _ => ?_)
theorem caduceuslaw04_FewAttrs.mono : ∀ a0 k, LeO (caduceuslaw04_FewAttrs.f k a0) (caduceuslaw04_FewAttrs.f (k + 1) a0) := by
 intro a0 k
 have ih0 := caduceuslaw04_FewAttrs.mono_l k
 unfold caduceuslaw04_FewAttrs.f
 repeat' first
   | (with_reducible exact ih0 _ _)
   | (with_reducible exact LeO.refl _)
   | (with_reducible exact LeO.none _)
   | (with_reducible refine LeO.ite ?_ ?_)
   | (with_reducible refine LeO.bind ?_ (fun _ => ?_))
   | exact ih0 _ _
   | exact LeO.none _
   | refine LeO.ite ?_ ?_
   | refine LeO.bind ?_ (fun _ => ?_)
set_option maxHeartbeats 8000000 in
set_option maxRecDepth 100000 in
theorem caduceuslaw04_FewAttrs.calls (k : Nat) (A0 : Option Addr) (c0 : Nat) (l0 : List (S44)) (r : Bool) (w : World) (hr0 : Kd.C k44 w A0 l0.length l0) (hc0 : l0.length ≤ c0) (h : caduceuslaw04_FewAttrs.f k l0 = some r) :
  Calls Tryz.prog 16 #[.slice A0 l0.length c0] w fun e w' => e = .returned (.bool r) ∧ Drawn0 w w' := by
 have HR0 := Aside0.mk hr0
 have HC0 := Aside0.mk hc0
 clear hr0 hc0
 have H : (caduceuslaw04_FewAttrs.l0 k l0 0) = some r := h
 clear h
 have H' := Aside0.mk H
 clear H
 go_enter Tryz.func16, Tryz.ntmps16
 go_wp2
 go_loopg [3] k (fun kq v3 w' => ∃ (x3_1 : Int), v3 = .int .i64 x3_1 ∧ Aside0 (caduceuslaw04_FewAttrs.l0 kq l0 x3_1 = some r) ∧ Aside0 (kq ≤ k) ∧ Drawn0 w w')
 case atStart => exact ⟨(0), (endS), H', ⟨Nat.le_refl _⟩, drA⟩
 case round =>
  clear H'
  try clear c1
  obtain ⟨x3_1, rfl, HA, HK1, ⟨m1, rfl⟩⟩ := hrel
  cases gk with
  | zero => exact absurd HA.out (by simp [caduceuslaw04_FewAttrs.l0])
  | succ k1 =>
   have H := HA.out
   clear HA
   simp only [caduceuslaw04_FewAttrs.l0] at H
   by_cases c2 : x3_1 < (l0.length : Int)
   ·rw [if_pos c2] at H
    have c2b0 : decide (x3_1 < (l0.length : Int)) = true := decide_eq_true c2
    clear c2
    by_cases c3 : x3_1 > 40
    ·rw [if_pos c3] at H
     have c3b0 : decide (40 < x3_1) = true := decide_eq_true c3
     clear c3
     obtain rfl := Option.some.inj H
     go_wp2
     go_ret
     exact ⟨endS, drA⟩
    ·rw [if_neg c3] at H
     have c3b0 : decide (40 < x3_1) = false := decide_eq_false c3
     clear c3
     by_cases c4 : 0 ≤ x3_1
     ·rw [if_pos c4] at H
      have c4b0 : decide (0 ≤ x3_1) = true := decide_eq_true c4
      clear c4
      by_cases c5 : (((rd_T44 l0 x3_1).f0).size : Int) > 200
      ·rw [if_pos c5] at H
       have c5b0 : decide (200 < (((rd_T44 l0 x3_1).f0).size : Int)) = true := decide_eq_true c5
       have c5b1 : decide (200 < ((rd_T44 l0 x3_1).f0).size) = true := decide_eq_true (by omega)
       clear c5
       obtain rfl := Option.some.inj H
       have p245 : 0 ≤ (x3_1 : Int) := odA
       have q245 : x3_1 < (l0.length : Int) := odA
       obtain ⟨ad245, e245, hx245_0, hx245_1, hx245_2, hx245_3⟩ := at_T44 HR0.out x3_1 p245 q245
       cases e245
       replace p245 := eq_true p245
       replace q245 := eq_true q245
       go_wp2
       go_ret
       exact ⟨endS, drA⟩
      ·rw [if_neg c5] at H
       have c5b0 : decide (200 < (((rd_T44 l0 x3_1).f0).size : Int)) = false := decide_eq_false c5
       have c5b1 : decide (200 < ((rd_T44 l0 x3_1).f0).size) = false := decide_eq_false (by omega)
       clear c5
       by_cases c6 : (((rd_T44 l0 x3_1).f1.f2).size : Int) > 500
       ·rw [if_pos c6] at H
        have c6b0 : decide (500 < (((rd_T44 l0 x3_1).f1.f2).size : Int)) = true := decide_eq_true c6
        have c6b1 : decide (500 < ((rd_T44 l0 x3_1).f1.f2).size) = true := decide_eq_true (by omega)
        clear c6
        obtain rfl := Option.some.inj H
        have p245 : 0 ≤ (x3_1 : Int) := odA
        have q245 : x3_1 < (l0.length : Int) := odA
        obtain ⟨ad245, e245, hx245_0, hx245_1, hx245_2, hx245_3⟩ := at_T44 HR0.out x3_1 p245 q245
        cases e245
        replace p245 := eq_true p245
        replace q245 := eq_true q245
        have p246 : 0 ≤ (x3_1 : Int) := odA
        have q246 : x3_1 < (l0.length : Int) := odA
        obtain ⟨ad246, e246, hx246_0, hx246_1, hx246_2, hx246_3⟩ := at_T44 HR0.out x3_1 p246 q246
        obtain rfl : ad245 = ad246 := (by injection e246)
        replace p246 := eq_true p246
        replace q246 := eq_true q246
        go_wp2
        go_ret
        exact ⟨endS, drA⟩
       ·rw [if_neg c6] at H
        have c6b0 : decide (500 < (((rd_T44 l0 x3_1).f1.f2).size : Int)) = false := decide_eq_false c6
        have c6b1 : decide (500 < ((rd_T44 l0 x3_1).f1.f2).size) = false := decide_eq_false (by omega)
        clear c6
        have H' := Aside0.mk H
        clear H
        have p245 : 0 ≤ (x3_1 : Int) := odA
        have q245 : x3_1 < (l0.length : Int) := odA
        obtain ⟨ad245, e245, hx245_0, hx245_1, hx245_2, hx245_3⟩ := at_T44 HR0.out x3_1 p245 q245
        cases e245
        replace p245 := eq_true p245
        replace q245 := eq_true q245
        have p246 : 0 ≤ (x3_1 : Int) := odA
        have q246 : x3_1 < (l0.length : Int) := odA
        obtain ⟨ad246, e246, hx246_0, hx246_1, hx246_2, hx246_3⟩ := at_T44 HR0.out x3_1 p246 q246
        obtain rfl : ad245 = ad246 := (by injection e246)
        replace p246 := eq_true p246
        replace q246 := eq_true q246
        go_wp2
        go_roundg k1
        case measure => have := HK1.out; omega
        case rel => exact ⟨(wrap64 (x3_1 + 1)), (endS), H', ⟨by have := HK1.out; omega⟩, drA⟩
     ·rw [if_neg c4] at H
      exact absurd H (by simp)
   ·rw [if_neg c2] at H
    have c2b0 : decide (x3_1 < (l0.length : Int)) = false := decide_eq_false c2
    clear c2
    obtain rfl := Option.some.inj H
    go_wp2
    go_ret
    exact ⟨endS, drA⟩

/-! ### caduceuslaw04_Attrs: function 19 -/
def caduceuslaw04_Attrs.l0 : Nat → List (S44) → List (S79) → Int → Option ((List (S79)))
 | 0, _, _, _ => none
 | k + 1, x0, x3, x4 => if x4 < (x0.length : Int) then (if 0 ≤ x4 then (if x3.length < 2932031007402 then (caduceuslaw04_Attrs.l0 k x0 (x3 ++ [(⟨(rd_T44 x0 x4).f0, (⟨(rd_T44 x0 x4).f1.f0, (rd_T44 x0 x4).f1.f1, (rd_T44 x0 x4).f1.f2⟩ : S77)⟩ : S79)]) (wrap64 (x4 + 1))) else (none)) else (none)) else (some x3)
def caduceuslaw04_Attrs.f (k : Nat) (l0 : List (S44)) : Option ((List (S79))) := caduceuslaw04_Attrs.l0 k l0 ([] : List (S79)) 0
theorem caduceuslaw04_Attrs.mono_l : ∀ k, (∀ y0 y1 y2, LeO (caduceuslaw04_Attrs.l0 k y0 y1 y2) (caduceuslaw04_Attrs.l0 (k + 1) y0 y1 y2))
 | 0 => fun _ _ _ r h => by simp [caduceuslaw04_Attrs.l0] at h
 | k + 1 => by
  have ih0 := caduceuslaw04_Attrs.mono_l k
  ·intro y0 y1 y2
   unfold caduceuslaw04_Attrs.l0
   repeat' first
   | (with_reducible exact ih0 _ _ _)
   | (with_reducible exact LeO.refl _)
   | (with_reducible exact LeO.none _)
   | (with_reducible refine LeO.ite ?_ ?_)
   | (with_reducible refine LeO.bind ?_ (fun _ => ?_))
   | exact ih0 _ _ _
   | exact LeO.none _
   | refine LeO.ite ?_ ?_
   | refine LeO.bind ?_ (fun _ => ?_)
theorem caduceuslaw04_Attrs.mono : ∀ a0 k, LeO (caduceuslaw04_Attrs.f k a0) (caduceuslaw04_Attrs.f (k + 1) a0) := by
 intro a0 k
 have ih0 := caduceuslaw04_Attrs.mono_l k
 unfold caduceuslaw04_Attrs.f
 repeat' first
   | (with_reducible exact ih0 _ _ _)
   | (with_reducible exact LeO.refl _)
   | (with_reducible exact LeO.none _)
   | (with_reducible refine LeO.ite ?_ ?_)
   | (with_reducible refine LeO.bind ?_ (fun _ => ?_))
   | exact ih0 _ _ _
   | exact LeO.none _
   | refine LeO.ite ?_ ?_
   | refine LeO.bind ?_ (fun _ => ?_)
def caduceuslaw04_Attrs.T5 : Bool × List (List Nat × List Nat) := (true, [([], []), ([], []), ([], []), ([1, 2], [1, 2]), ([3], [3]), ([4], [4]), ([], []), ([], []), ([6, 7], [6, 7]), ([8], [8]), ([9], [9]), ([5, 10], [5, 10]), ([11], [11]), ([0, 12], [0, 12]), ([13, 13, 0, 1, 2, 3, 4, 5, 6, 7, 8, 9, 10, 11, 12, 13], [0, 13])])
def caduceuslaw04_Attrs.B5 : List Nat := [0, 0, 0, 6, 14, 30, 0, 0, 192, 448, 960, 2046, 4094, 8191, 16383]
theorem caduceuslaw04_Attrs.tab5 : rtab .any (opsOf Tryz.f19 5) = caduceuslaw04_Attrs.T5 := by kernel_rfl
theorem caduceuslaw04_Attrs.bits5 : waitsOk caduceuslaw04_Attrs.T5.2 caduceuslaw04_Attrs.B5 = true := by kernel_rfl
set_option maxHeartbeats 8000000 in
set_option maxRecDepth 100000 in
theorem caduceuslaw04_Attrs.calls (k : Nat) (A0 : Option Addr) (c0 : Nat) (l0 : List (S44)) (r : List (S79)) (w : World) (hr0 : Kd.C k44 w A0 l0.length l0) (hc0 : l0.length ≤ c0) (h : caduceuslaw04_Attrs.f k l0 = some r) :
  Calls Tryz.prog 19 #[.slice A0 l0.length c0] w fun e w' => ∃ v0_ : Value, e = .returned (v0_) ∧ Kd.R k79 79 w' w.heap.size (fun _ => True) v0_ r ∧ Below w.heap.size w w' := by
 have hu37 := Tryz.underlying37
 have hu79 := Tryz.underlying79
 have HR0 := Aside0.mk hr0
 have HC0 := Aside0.mk hc0
 clear hr0 hc0
 have HB := Aside0.mk (Below.refl w.heap.size w)
 have H : (caduceuslaw04_Attrs.l0 k l0 ([] : List (S79)) 0) = some r := h
 clear h
 have H' := Aside0.mk H
 clear H
 go_enter Tryz.func19, Tryz.ntmps19
 go_wp2
 go_loopg [3, 4] k (fun kq v3 v4 w' => ∃ (x3_1 : List (S79)) (x4_1 : Int), v4 = .int .i64 x4_1 ∧ Aside0 (caduceuslaw04_Attrs.l0 kq l0 x3_1 x4_1 = some r) ∧ Aside0 (kq ≤ k) ∧ Aside0 (Kd.R k79 79 w' w.heap.size (fun _ => True) v3 x3_1) ∧ Aside0 (Below w.heap.size w w'))
 case atStart => exact ⟨(([] : List (S79))), (0), (endS), H', ⟨Nat.le_refl _⟩, ⟨by first | exact Kd.R_nil _ _ _ _ _ | exact Kd.N_nil _ _ _ _ _ | exact Kd.V_nil _ _ _ _ _ | exact Kd.Q_nil _ _ _ _ _ | exact Kd.S_nil _ _ _ _ _⟩, ⟨bwA⟩⟩
 case round =>
  clear H'
  try clear c1
  obtain ⟨x3_1, x4_1, rfl, HA, HK1, HO_3, HB⟩ := hrel
  cases gk with
  | zero => exact absurd HA.out (by simp [caduceuslaw04_Attrs.l0])
  | succ k1 =>
   have H := HA.out
   clear HA
   simp only [caduceuslaw04_Attrs.l0] at H
   by_cases c2 : x4_1 < (l0.length : Int)
   ·rw [if_pos c2] at H
    have c2b0 : decide (x4_1 < (l0.length : Int)) = true := decide_eq_true c2
    clear c2
    by_cases c3 : 0 ≤ x4_1
    ·rw [if_pos c3] at H
     have c3b0 : decide (0 ≤ x4_1) = true := decide_eq_true c3
     clear c3
     by_cases c4 : x3_1.length < 2932031007402
     ·rw [if_pos c4] at H
      have LMc4 := Aside0.mk c4
      clear c4
      obtain ⟨y288, hy288⟩ : ∃ y_ : List (S79), y_ = (x3_1 ++ [(⟨(rd_T44 l0 x4_1).f0, (⟨(rd_T44 l0 x4_1).f1.f0, (rd_T44 l0 x4_1).f1.f1, (rd_T44 l0 x4_1).f1.f2⟩ : S77)⟩ : S79)]) := ⟨_, rfl⟩
      replace H : (caduceuslaw04_Attrs.l0 k1 l0 y288 (wrap64 (x4_1 + 1))) = some r := by first | (rw [hy288]; with_reducible exact H) | (have H2_ := (Option.bind_some _ _).symm.trans H; rw [hy288]; with_reducible exact H2_) | (have H2_ := (Option.bind_some _ _).symm.trans H; with_reducible exact H2_) | with_reducible exact H | (rw [hy288]; exact H) | exact H
      have Ny288 := Aside0.mk hy288
      clear hy288
      have H' := Aside0.mk H
      clear H
      try go_wp2
      have n0_ := Aside0.mk (Kd.R_drew HO_3.out)
      have n1_ := Aside0.mk (below_drew1 HB.out)
      clear HO_3
      clear HB
      have HO_3 := n0_
      have HB := n1_
      clear n0_ n1_
      have p286 : 0 ≤ (x4_1 : Int) := odA
      have q286 : x4_1 < (l0.length : Int) := odA
      obtain ⟨ad286, e286, hx286_0, hx286_1, hx286_2, hx286_3⟩ := at_T44 HR0.out x4_1 p286 q286
      have hw286_3 := hx286_3
      have hw286_2 := hx286_2
      have hw286_1 := hx286_1
      have hw286_0 := hx286_0
      cases e286
      replace hx286_0 := crA hx286_0
      replace hx286_1 := crA hx286_1
      replace hx286_2 := crA hx286_2
      replace hx286_3 := crA hx286_3
      replace p286 := eq_true p286
      replace q286 := eq_true q286
      have p287 : 0 ≤ (x4_1 : Int) := odA
      have q287 : x4_1 < (l0.length : Int) := odA
      obtain ⟨ad287, e287, hx287_0, hx287_1, hx287_2, hx287_3⟩ := at_T44 HR0.out x4_1 p287 q287
      have hw287_3 := hx287_3
      have hw287_2 := hx287_2
      have hw287_1 := hx287_1
      have hw287_0 := hx287_0
      obtain rfl : ad286 = ad287 := (by injection e287)
      replace hx287_0 := crA hx287_0
      replace hx287_1 := crA hx287_1
      replace hx287_2 := crA hx287_2
      replace hx287_3 := crA hx287_3
      replace p287 := eq_true p287
      replace q287 := eq_true q287
      refine start_ (n := 15) (S := fun w' => w'.cell? (ad286.add ((x4_1).toNat * 4)) = some (.string ((rd_T44 l0 x4_1).f0)) ∧ w'.cell? ⟨(ad286.add ((x4_1).toNat * 4)).block, (ad286.add ((x4_1).toNat * 4)).off + 1, none⟩ = some (.int .i64 ((rd_T44 l0 x4_1).f1.f0)) ∧ w'.cell? ⟨(ad286.add ((x4_1).toNat * 4)).block, (ad286.add ((x4_1).toNat * 4)).off + 2, none⟩ = some (.int .i64 ((rd_T44 l0 x4_1).f1.f1)) ∧ w'.cell? ⟨(ad286.add ((x4_1).toNat * 4)).block, (ad286.add ((x4_1).toNat * 4)).off + 3, none⟩ = some (.string ((rd_T44 l0 x4_1).f1.f2)) ∧ w'.cell? (ad286.add ((x4_1).toNat * 4)) = some (.string ((rd_T44 l0 x4_1).f0)) ∧ w'.cell? ⟨(ad286.add ((x4_1).toNat * 4)).block, (ad286.add ((x4_1).toNat * 4)).off + 1, none⟩ = some (.int .i64 ((rd_T44 l0 x4_1).f1.f0)) ∧ w'.cell? ⟨(ad286.add ((x4_1).toNat * 4)).block, (ad286.add ((x4_1).toNat * 4)).off + 2, none⟩ = some (.int .i64 ((rd_T44 l0 x4_1).f1.f1)) ∧ w'.cell? ⟨(ad286.add ((x4_1).toNat * 4)).block, (ad286.add ((x4_1).toNat * 4)).off + 3, none⟩ = some (.string ((rd_T44 l0 x4_1).f1.f2))) (ds := []) (mkB 15 0) (by kernel_rfl) rfl rfl ⟨crA hw286_0, crA hw286_1, crA hw286_2, crA hw286_3, crA hw287_0, crA hw287_1, crA hw287_2, crA hw287_3⟩ (fun hHeld => ?_); refine with_tabW caduceuslaw04_Attrs.tab5 caduceuslaw04_Attrs.bits5 (fun HT_ HW_ => ?_)
      generalize wr.drew = w5 at HO_3 HB hx286_0 hx286_1 hx286_2 hx286_3 hx287_0 hx287_1 hx287_2 hx287_3 hHeld ⊢
      refine pureA 0 (some 11) (mkB 15 1) ?_
      refine pureA 1 (some 12) (mkB 15 3) ?_
      refine pureA 2 (some 13) (mkB 15 7) ?_
      refine pureA 3 (some 14) (mkB 15 15) ?_
      refine pureA 4 (some 15) (mkB 15 31) ?_
      refine pureA 6 (some 17) (mkB 15 95) ?_
      refine pureA 7 (some 18) (mkB 15 223) ?_
      refine pureA 8 (some 19) (mkB 15 479) ?_
      refine pureA 9 (some 20) (mkB 15 991) ?_
      refine takeA 5 (some 16) (mkB 15 1023) ?_ rfl (Or.inl ⟨by rfl, by rintro w' ⟨s0, s1, s2, s3, s4, s5, s6, s7⟩; go_simp; with_reducible rfl⟩)
      refine takeA 10 (some 21) (mkB 15 2047) ?_ rfl (Or.inl ⟨by rfl, by rintro w' ⟨s0, s1, s2, s3, s4, s5, s6, s7⟩; go_simp; with_reducible rfl⟩)
      refine pureA 11 (some 22) (mkB 15 4095) ?_
      refine oneA 12 (some 23) (mkB 15 8191) (fun K hK => ?_)
      refine value_ (w1 := ?_) (v := ?_) (by rfl) rfl ?_ ?_
      rotate_left 2
      ·go_simp
       constructor
       ·rfl
       ·rfl
      refine hK.out _ _ ⟨(World.cell?_alloc_lt _ _ _ (World.block_lt_of_cell? _ _ (crA hw286_0))).trans (crA hw286_0), (World.cell?_alloc_lt _ _ _ (World.block_lt_of_cell? _ _ (crA hw286_1))).trans (crA hw286_1), (World.cell?_alloc_lt _ _ _ (World.block_lt_of_cell? _ _ (crA hw286_2))).trans (crA hw286_2), (World.cell?_alloc_lt _ _ _ (World.block_lt_of_cell? _ _ (crA hw286_3))).trans (crA hw286_3), (World.cell?_alloc_lt _ _ _ (World.block_lt_of_cell? _ _ (crA hw287_0))).trans (crA hw287_0), (World.cell?_alloc_lt _ _ _ (World.block_lt_of_cell? _ _ (crA hw287_1))).trans (crA hw287_1), (World.cell?_alloc_lt _ _ _ (World.block_lt_of_cell? _ _ (crA hw287_2))).trans (crA hw287_2), (World.cell?_alloc_lt _ _ _ (World.block_lt_of_cell? _ _ (crA hw287_3))).trans (crA hw287_3)⟩ (fun hHeld => ?_)
      clear hK K
      refine normA ?_
      refine oneA 13 (some 24) (mkB 15 16383) (fun K hK => ?_)
      refine Kd.R_append_step k79 (w0 := w) w.heap.size (by rfl) (.tmp 11) (.tmp 23) 41 79 (.agg #[(.string ⟨#[]⟩), (.int .i64 0), (.int .i64 0), (.string ⟨#[]⟩)]) 48 rfl Tryz.underlying41 info79 rfl (by decide) (by omega) u3 x3_1 (⟨(rd_T44 l0 x4_1).f0, (⟨(rd_T44 l0 x4_1).f1.f0, (rd_T44 l0 x4_1).f1.f1, (rd_T44 l0 x4_1).f1.f2⟩ : S77)⟩ : S79) [.string ((rd_T44 l0 x4_1).f0), .int .i64 ((rd_T44 l0 x4_1).f1.f0), .int .i64 ((rd_T44 l0 x4_1).f1.f1), .string ((rd_T44 l0 x4_1).f1.f2)] (fun _ => True) (fun _ => False) rfl rfl ?aP (fun _ hk => hk.elim) ?aF ?aO ?aB ?aS ?aL ?_
      (case aP => exact k79_mkM _ _ _ (⟨(rd_T44 l0 x4_1).f0, (⟨(rd_T44 l0 x4_1).f1.f0, (rd_T44 l0 x4_1).f1.f1, (rd_T44 l0 x4_1).f1.f2⟩ : S77)⟩ : S79))
      (case aB => exact (bwA))
      (case aF => exact (fun _ _ => trivial))
      (case aO => exact (by (with_reducible repeat (first | apply Kd.R_alloc | apply Kd.R_drewN | apply Kd.R_drew)); exact HO_3.out))
      (case aS => exact (below_size (bwA)))
      (case aL => have := LMc4.out; omega)
      intro v289 w6 ho hb hg hat
      rw [← Ny288.out] at ho
      have n0_ := Aside0.mk (hb)
      have n1_ := Aside0.mk (ho)
      clear HB
      clear HO_3
      have HB := n0_
      have HO290 := n1_
      clear n0_ n1_
      clear ho hb hg hat
      refine hK.out _ _ ⟨crA hw286_0, crA hw286_1, crA hw286_2, crA hw286_3, crA hw287_0, crA hw287_1, crA hw287_2, crA hw287_3⟩ (fun hHeld => ?_)
      clear hK K
      refine normA ?_
      refine pureA 14 (some 3) (mkB 15 32767) ?_
      refine done_ (done_of HT_.out (by kernel_rfl)) ?_
      try go_wp2
      go_roundg k1
      case measure => have := HK1.out; omega
      case rel => exact ⟨(y288), (wrap64 (x4_1 + 1)), (endS), H', ⟨by have := HK1.out; omega⟩, ⟨by (with_reducible repeat (first | apply Kd.R_alloc | apply Kd.R_drewN | apply Kd.R_drew)); exact HO290.out⟩, ⟨bwA⟩⟩
     ·rw [if_neg c4] at H
      exact absurd H (by simp)
    ·rw [if_neg c3] at H
     exact absurd H (by simp)
   ·rw [if_neg c2] at H
    have c2b0 : decide (x4_1 < (l0.length : Int)) = false := decide_eq_false c2
    clear c2
    obtain rfl := Option.some.inj H
    go_wp2
    go_ret
    exact ⟨_, endA, by (with_reducible repeat (first | apply Kd.R_alloc | apply Kd.R_drewN | apply Kd.R_drew)); exact HO_3.out, bwA⟩

end Go.Proofs.YtnbbajiabbmdmaaGreatDoor.A
