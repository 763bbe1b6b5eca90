-- By drv.py, the session's own driver round the kit's print: the machine's side of the laws, function by function. Not trusted: Lean checks it.
import Derived.Test.YtbbfggfiknbdmaaDoorAx0
import Derived.Test.YtbbfggfiknbdmaaDoorAx1
import Derived.Test.YtbbfggfiknbdmaaDoorAx7
namespace Go.Proofs.YtbbfggfiknbdmaaDoor.A
open Go.RowKit Go.Proofs.YtbbfggfiknbdmaaDoorW.PrintWords Go.Proofs.YtbbfggfiknbdmaaDoorW.PrintLast Go.Proofs.YtbbfggfiknbdmaaDoorW.PrintMore
attribute [local go_sem] max2_int min2_int max_two min_two max_three min_three max_four min_four   -- for this text's walks alone
set_option linter.unusedVariables false
set_option linter.unusedSimpArgs false

attribute [local go_sem high] eqA49
/-! ### caduceusref04_Same: function 8 -/
def caduceusref04_Same.l0 : Nat → List (S49) → List (S49) → Int → Option (Bool)
 | 0, _, _, _ => none
 | k + 1, x0, x1, x5 => if x5 < (x0.length : Int) then (if 0 ≤ x5 then (if x5 < (x1.length : Int) then (if (!((((rd_T49 x0 x5).f0).toList) == (((rd_T49 x1 x5).f0).toList)) || (!(((rd_T49 x0 x5).f1) == ((rd_T49 x1 x5).f1)) || (!(((rd_T49 x0 x5).f2) == ((rd_T49 x1 x5).f2))))) = true then (some false) else (caduceusref04_Same.l0 k x0 x1 (wrap64 (x5 + 1)))) else (none)) else (none)) else (some true)
def caduceusref04_Same.f (k : Nat) (l0 : List (S49)) (l1 : List (S49)) : Option (Bool) := if (l0.length : Int) = (l1.length : Int) then (caduceusref04_Same.l0 k l0 l1 0) else (some false)
theorem caduceusref04_Same.mono_l : ∀ k, (∀ y0 y1 y2, LeO (caduceusref04_Same.l0 k y0 y1 y2) (caduceusref04_Same.l0 (k + 1) y0 y1 y2))
 | 0 => fun _ _ _ r h => by simp [caduceusref04_Same.l0] at h
 | k + 1 => by
  have ih0 := caduceusref04_Same.mono_l k
  ·intro y0 y1 y2
   unfold caduceusref04_Same.l0
   repeat' first
   | (with_reducible exact ih0 _ _ _)
   | (with_reducible exact LeO.refl _)
   | (with_reducible exact LeO.none _)
   | (with_reducible refine LeO.ite ?_ ?_)
   | (with_reducible refine LeO.bind ?_ (fun _ => ?_))
   | exact ih0 _ _ _
   | exact LeO.none _
   | refine LeO.ite ?_ ?_
   | refine LeO.bind ?_ (fun _ => ?_)
theorem caduceusref04_Same.mono : ∀ a0 a1 k, LeO (caduceusref04_Same.f k a0 a1) (caduceusref04_Same.f (k + 1) a0 a1) := by
 intro a0 a1 k
 have ih0 := caduceusref04_Same.mono_l k
 unfold caduceusref04_Same.f
 repeat' first
   | (with_reducible exact ih0 _ _ _)
   | (with_reducible exact LeO.refl _)
   | (with_reducible exact LeO.none _)
   | (with_reducible refine LeO.ite ?_ ?_)
   | (with_reducible refine LeO.bind ?_ (fun _ => ?_))
   | exact ih0 _ _ _
   | exact LeO.none _
   | refine LeO.ite ?_ ?_
   | refine LeO.bind ?_ (fun _ => ?_)
set_option maxHeartbeats 8000000 in
set_option maxRecDepth 100000 in
theorem caduceusref04_Same.calls (k : Nat) (A0 : Option Addr) (c0 : Nat) (l0 : List (S49)) (A1 : Option Addr) (c1 : Nat) (l1 : List (S49)) (r : Bool) (w : World) (hr0 : Kd.C k49 w A0 l0.length l0) (hc0 : l0.length ≤ c0) (hr1 : Kd.C k49 w A1 l1.length l1) (hc1 : l1.length ≤ c1) (h : caduceusref04_Same.f k l0 l1 = some r) :
  Calls Tryd.prog 8 #[.slice A0 l0.length c0, .slice A1 l1.length c1] w fun e w' => e = .returned (.bool r) ∧ Drawn0 w w' := by
 have hu49 := Tryd.underlying49
 have HR0 := Aside0.mk hr0
 have HC0 := Aside0.mk hc0
 clear hr0 hc0
 have HR1 := Aside0.mk hr1
 have HC1 := Aside0.mk hc1
 clear hr1 hc1
 have H : (if (l0.length : Int) = (l1.length : Int) then (caduceusref04_Same.l0 k l0 l1 0) else (some false)) = some r := h
 clear h
 by_cases c3 : (l0.length : Int) = (l1.length : Int)
 ·rw [if_pos c3] at H
  have c3b0 : ((l0.length : Int) == (l1.length : Int)) = true := beq_iff_eq.mpr c3
  have c3b1 : ((l0.length : Int) != (l1.length : Int)) = false := bne_eq_false_iff_eq.mpr c3
  have c3b2 : (l0.length == l1.length) = true := by first | simpa using c3 | (simp at c3 ⊢; omega)
  clear c3
  have H' := Aside0.mk H
  clear H
  go_enter Tryd.func8, Tryd.ntmps8
  go_wp2
  repeat (go_quiet (fail); try go_wp2)
  go_loopg [5] k (fun kq v5 w' => ∃ (x5_1 : Int), v5 = .int .i64 x5_1 ∧ Aside0 (caduceusref04_Same.l0 kq l0 l1 x5_1 = some r) ∧ Aside0 (kq ≤ k) ∧ Drawn0 w w')
  case atStart => exact ⟨(0), (endS), H', ⟨Nat.le_refl _⟩, drA⟩
  case round =>
   clear H'
   try clear c1
   try clear p2
   try clear c3
   try clear c3b0
   try clear c3b1
   try clear c3b2
   obtain ⟨x5_1, rfl, HA, HK1, ⟨m1, rfl⟩⟩ := hrel
   cases gk with
   | zero => exact absurd HA.out (by simp [caduceusref04_Same.l0])
   | succ k1 =>
    have H := HA.out
    clear HA
    simp only [caduceusref04_Same.l0] at H
    by_cases c4 : x5_1 < (l0.length : Int)
    ·rw [if_pos c4] at H
     have c4b0 : decide (x5_1 < (l0.length : Int)) = true := decide_eq_true c4
     clear c4
     by_cases c5 : 0 ≤ x5_1
     ·rw [if_pos c5] at H
      have c5b0 : decide (0 ≤ x5_1) = true := decide_eq_true c5
      clear c5
      by_cases c6 : x5_1 < (l1.length : Int)
      ·rw [if_pos c6] at H
       have c6b0 : decide (x5_1 < (l1.length : Int)) = true := decide_eq_true c6
       clear c6
       by_cases c7 : (!((((rd_T49 l0 x5_1).f0).toList) == (((rd_T49 l1 x5_1).f0).toList)) || (!(((rd_T49 l0 x5_1).f1) == ((rd_T49 l1 x5_1).f1)) || (!(((rd_T49 l0 x5_1).f2) == ((rd_T49 l1 x5_1).f2))))) = true
       ·rw [if_pos c7] at H
        have c7b0 : (!((((rd_T49 l0 x5_1).f0).toList) == (((rd_T49 l1 x5_1).f0).toList)) || (!(((rd_T49 l0 x5_1).f1) == ((rd_T49 l1 x5_1).f1)) || (!(((rd_T49 l0 x5_1).f2) == ((rd_T49 l1 x5_1).f2))))) = true := c7
        clear c7
        obtain rfl := Option.some.inj H
        have p243 : 0 ≤ (x5_1 : Int) := odA
        have q243 : x5_1 < (l0.length : Int) := odA
        obtain ⟨ad243, e243, hx243_0, hx243_1, hx243_2⟩ := at_T49 HR0.out x5_1 p243 q243
        cases e243
        replace p243 := eq_true p243
        replace q243 := eq_true q243
        have p244 : 0 ≤ (x5_1 : Int) := odA
        have q244 : x5_1 < (l1.length : Int) := odA
        obtain ⟨ad244, e244, hx244_0, hx244_1, hx244_2⟩ := at_T49 HR1.out x5_1 p244 q244
        cases e244
        replace p244 := eq_true p244
        replace q244 := eq_true q244
        go_wp2
        repeat (go_quiet (fail); try go_wp2)
        go_ret
        exact ⟨endS, drA⟩
       ·rw [if_neg c7] at H
        have c7b0 : (!((((rd_T49 l0 x5_1).f0).toList) == (((rd_T49 l1 x5_1).f0).toList)) || (!(((rd_T49 l0 x5_1).f1) == ((rd_T49 l1 x5_1).f1)) || (!(((rd_T49 l0 x5_1).f2) == ((rd_T49 l1 x5_1).f2))))) = false := by simpa using c7
        clear c7
        have H' := Aside0.mk H
        clear H
        have p243 : 0 ≤ (x5_1 : Int) := odA
        have q243 : x5_1 < (l0.length : Int) := odA
        obtain ⟨ad243, e243, hx243_0, hx243_1, hx243_2⟩ := at_T49 HR0.out x5_1 p243 q243
        cases e243
        replace p243 := eq_true p243
        replace q243 := eq_true q243
        have p244 : 0 ≤ (x5_1 : Int) := odA
        have q244 : x5_1 < (l1.length : Int) := odA
        obtain ⟨ad244, e244, hx244_0, hx244_1, hx244_2⟩ := at_T49 HR1.out x5_1 p244 q244
        cases e244
        replace p244 := eq_true p244
        replace q244 := eq_true q244
        go_wp2
        repeat (go_quiet (fail); try go_wp2)
        go_roundg k1
        case measure => have := HK1.out; omega
        case rel => exact ⟨(wrap64 (x5_1 + 1)), (endS), H', ⟨by have := HK1.out; omega⟩, drA⟩
      ·rw [if_neg c6] at H
       exact absurd H (by simp)
     ·rw [if_neg c5] at H
      exact absurd H (by simp)
    ·rw [if_neg c4] at H
     have c4b0 : decide (x5_1 < (l0.length : Int)) = false := decide_eq_false c4
     clear c4
     obtain rfl := Option.some.inj H
     go_wp2
     repeat (go_quiet (fail); try go_wp2)
     go_ret
     exact ⟨endS, drA⟩
 ·rw [if_neg c3] at H
  have c3b0 : ((l0.length : Int) == (l1.length : Int)) = false := beq_eq_false_iff_ne.mpr c3
  have c3b1 : ((l0.length : Int) != (l1.length : Int)) = true := bne_iff_ne.mpr c3
  have c3b2 : (l0.length == l1.length) = false := by first | simpa using c3 | (simp at c3 ⊢; omega)
  obtain rfl := Option.some.inj H
  go_enter Tryd.func8, Tryd.ntmps8
  go_wp2
  repeat (go_quiet (fail); try go_wp2)
  go_ret
  exact ⟨endS, drA⟩

/-! ### caduceuslaw04_Refs: function 9 -/
def caduceuslaw04_Refs.l0 : Nat → List (S35) → List (S49) → Int → Option ((List (S49)))
 | 0, _, _, _ => none
 | k + 1, x0, x3, x4 => if x4 < (x0.length : Int) then (if 0 ≤ x4 then (if x3.length < 4398046511104 then (caduceuslaw04_Refs.l0 k x0 (x3 ++ [(⟨(rd_T35 x0 x4).f0, (rd_T35 x0 x4).f1, (rd_T35 x0 x4).f2⟩ : S49)]) (wrap64 (x4 + 1))) else (none)) else (none)) else (some x3)
def caduceuslaw04_Refs.f (k : Nat) (l0 : List (S35)) : Option ((List (S49))) := caduceuslaw04_Refs.l0 k l0 ([] : List (S49)) 0
theorem caduceuslaw04_Refs.mono_l : ∀ k, (∀ y0 y1 y2, LeO (caduceuslaw04_Refs.l0 k y0 y1 y2) (caduceuslaw04_Refs.l0 (k + 1) y0 y1 y2))
 | 0 => fun _ _ _ r h => by simp [caduceuslaw04_Refs.l0] at h
 | k + 1 => by
  have ih0 := caduceuslaw04_Refs.mono_l k
  ·intro y0 y1 y2
   unfold caduceuslaw04_Refs.l0
   repeat' first
   | (with_reducible exact ih0 _ _ _)
   | (with_reducible exact LeO.refl _)
   | (with_reducible exact LeO.none _)
   | (with_reducible refine LeO.ite ?_ ?_)
   | (with_reducible refine LeO.bind ?_ (fun _ => ?_))
   | exact ih0 _ _ _
   | exact LeO.none _
   | refine LeO.ite ?_ ?_
   | refine LeO.bind ?_ (fun _ => ?_)
theorem caduceuslaw04_Refs.mono : ∀ a0 k, LeO (caduceuslaw04_Refs.f k a0) (caduceuslaw04_Refs.f (k + 1) a0) := by
 intro a0 k
 have ih0 := caduceuslaw04_Refs.mono_l k
 unfold caduceuslaw04_Refs.f
 repeat' first
   | (with_reducible exact ih0 _ _ _)
   | (with_reducible exact LeO.refl _)
   | (with_reducible exact LeO.none _)
   | (with_reducible refine LeO.ite ?_ ?_)
   | (with_reducible refine LeO.bind ?_ (fun _ => ?_))
   | exact ih0 _ _ _
   | exact LeO.none _
   | refine LeO.ite ?_ ?_
   | refine LeO.bind ?_ (fun _ => ?_)
set_option maxHeartbeats 8000000 in
set_option maxRecDepth 100000 in
theorem caduceuslaw04_Refs.calls (k : Nat) (A0 : Option Addr) (c0 : Nat) (l0 : List (S35)) (r : List (S49)) (w : World) (hr0 : Kd.C k35 w A0 l0.length l0) (hc0 : l0.length ≤ c0) (h : caduceuslaw04_Refs.f k l0 = some r) :
  Calls Tryd.prog 9 #[.slice A0 l0.length c0] w fun e w' => ∃ v0_ : Value, e = .returned (v0_) ∧ Kd.R k49 49 w' w.heap.size (fun _ => True) v0_ r ∧ Below w.heap.size w w' := by
 have hu35 := Tryd.underlying35
 have HR0 := Aside0.mk hr0
 have HC0 := Aside0.mk hc0
 clear hr0 hc0
 have HB := Aside0.mk (Below.refl w.heap.size w)
 have H : (caduceuslaw04_Refs.l0 k l0 ([] : List (S49)) 0) = some r := h
 clear h
 have H' := Aside0.mk H
 clear H
 go_enter Tryd.func9, Tryd.ntmps9
 go_wp2
 go_loopg [3, 4] k (fun kq v3 v4 w' => ∃ (x3_1 : List (S49)) (x4_1 : Int), v4 = .int .i64 x4_1 ∧ Aside0 (caduceuslaw04_Refs.l0 kq l0 x3_1 x4_1 = some r) ∧ Aside0 (kq ≤ k) ∧ Aside0 (Kd.R k49 49 w' w.heap.size (fun _ => True) v3 x3_1) ∧ Aside0 (Below w.heap.size w w'))
 case atStart => exact ⟨(([] : List (S49))), (0), (endS), H', ⟨Nat.le_refl _⟩, ⟨by first | exact Kd.R_nil _ _ _ _ _ | exact Kd.N_nil _ _ _ _ _ | exact Kd.V_nil _ _ _ _ _ | exact Kd.Q_nil _ _ _ _ _ | exact Kd.S_nil _ _ _ _ _⟩, ⟨bwA⟩⟩
 case round =>
  clear H'
  obtain ⟨x3_1, x4_1, rfl, HA, HK1, HO_3, HB⟩ := hrel
  cases gk with
  | zero => exact absurd HA.out (by simp [caduceuslaw04_Refs.l0])
  | succ k1 =>
   have H := HA.out
   clear HA
   simp only [caduceuslaw04_Refs.l0] at H
   by_cases c2 : x4_1 < (l0.length : Int)
   ·rw [if_pos c2] at H
    have c2b0 : decide (x4_1 < (l0.length : Int)) = true := decide_eq_true c2
    clear c2
    by_cases c3 : 0 ≤ x4_1
    ·rw [if_pos c3] at H
     have c3b0 : decide (0 ≤ x4_1) = true := decide_eq_true c3
     clear c3
     by_cases c4 : x3_1.length < 4398046511104
     ·rw [if_pos c4] at H
      have LMc4 := Aside0.mk c4
      clear c4
      obtain ⟨y246, hy246⟩ : ∃ y_ : List (S49), y_ = (x3_1 ++ [(⟨(rd_T35 l0 x4_1).f0, (rd_T35 l0 x4_1).f1, (rd_T35 l0 x4_1).f2⟩ : S49)]) := ⟨_, rfl⟩
      replace H : (caduceuslaw04_Refs.l0 k1 l0 y246 (wrap64 (x4_1 + 1))) = some r := by first | (rw [hy246]; with_reducible exact H) | (have H2_ := (Option.bind_some _ _).symm.trans H; rw [hy246]; with_reducible exact H2_) | (have H2_ := (Option.bind_some _ _).symm.trans H; with_reducible exact H2_) | with_reducible exact H | (rw [hy246]; exact H) | exact H
      have Ny246 := Aside0.mk hy246
      clear hy246
      have H' := Aside0.mk H
      clear H
      have p245 : 0 ≤ (x4_1 : Int) := odA
      have q245 : x4_1 < (l0.length : Int) := odA
      obtain ⟨ad245, e245, hx245_0, hx245_1, hx245_2⟩ := at_T35 HR0.out x4_1 p245 q245
      cases e245
      replace hx245_0 := crA hx245_0
      replace hx245_1 := crA hx245_1
      replace hx245_2 := crA hx245_2
      replace p245 := eq_true p245
      replace q245 := eq_true q245
      go_wp2_with (first | ((with_reducible refine gate_builtin (b := .append) (xs := #[.tmp 11, .tmp 16]) rfl ?_); at_builtin; refine Kd.R_append k49 (w0 := w) w.heap.size rfl (.tmp 11) (.tmp 16) 31 49 (.agg #[(.string ⟨#[]⟩), (.int .i64 0), (.bool false)]) 32 rfl Tryd.underlying31 info49 rfl (by decide) (by omega) u3 x3_1 (⟨(rd_T35 l0 x4_1).f0, (rd_T35 l0 x4_1).f1, (rd_T35 l0 x4_1).f2⟩ : S49) [.string ((rd_T35 l0 x4_1).f0), .int .i64 ((rd_T35 l0 x4_1).f1), .bool ((rd_T35 l0 x4_1).f2)] (fun _ => True) (fun _ => False) rfl rfl ?aP (fun _ hk => hk.elim) ?aF ?aO ?aB ?aS ?aL ?_; (case aP => exact k49_mkM _ _ _ (⟨(rd_T35 l0 x4_1).f0, (rd_T35 l0 x4_1).f1, (rd_T35 l0 x4_1).f2⟩ : S49)); (case aB => exact (bwA)); (case aF => exact (fun _ _ => trivial)); (case aO => exact (by (with_reducible repeat (first | apply Kd.R_alloc | apply Kd.R_drewN | apply Kd.R_drew)); exact HO_3.out)); (case aS => exact (below_size (bwA))); (case aL => have := LMc4.out; omega); intro v247 w5 ho hb hg hat; rw [← Ny246.out] at ho; have n0_ := Aside0.mk (hb); have n1_ := Aside0.mk (ho); clear HB; clear HO_3; have HB := n0_; have HO248 := n1_; clear n0_ n1_; clear ho hb hg hat))
      go_roundg k1
      case measure => have := HK1.out; omega
      case rel => exact ⟨(y246), (wrap64 (x4_1 + 1)), (endS), H', ⟨by have := HK1.out; omega⟩, ⟨by (with_reducible repeat (first | apply Kd.R_alloc | apply Kd.R_drewN | apply Kd.R_drew)); exact HO248.out⟩, ⟨bwA⟩⟩
     ·rw [if_neg c4] at H
      exact absurd H (by simp)
    ·rw [if_neg c3] at H
     exact absurd H (by simp)
   ·rw [if_neg c2] at H
    have c2b0 : decide (x4_1 < (l0.length : Int)) = false := decide_eq_false c2
    clear c2
    obtain rfl := Option.some.inj H
    go_wp2
    go_ret
    exact ⟨_, endA, by (with_reducible repeat (first | apply Kd.R_alloc | apply Kd.R_drewN | apply Kd.R_drew)); exact HO_3.out, bwA⟩

/-! ### schema_Within: function 10, by hand -/
def schema_Within.f (l0 : List S35) (l1 : List S35) : Option Bool := (idxK (fun x : S35 => (schema_Find.f l1 x.f0).bind fun t => some (if t.2.2.2 = true then (if t.2.1 = x.f1 then t.2.2.1 != x.f2 else true) else true)) l0 0).bind fun i => some (!(decide (0 ≤ i)))
set_option maxHeartbeats 4000000 in
theorem schema_Within1.calls (B : Nat) (A1 : Option Addr) (c1 : Nat) (l1 : List S35) (x : S35) (cs : List Value) (b : Bool) (w : World) (hT : Tabs w) (hB : B < w.heap.size) (hcell : w.cell? ⟨B, 0, none⟩ = some (.slice A1 l1.length c1)) (hr1 : Kd.C k35 w A1 l1.length l1) (hc1 : l1.length ≤ c1) (hx : ((schema_Find.f l1 x.f0).bind fun t => some (if t.2.2.2 = true then (if t.2.1 = x.f1 then t.2.2.1 != x.f2 else true) else true)) = some b) (hK : k35.K w x cs) :
  Calls Tryd.prog 20 #[.agg cs.toArray, .pointer (some ⟨B, 0, none⟩)] w fun e w' => e = .returned (.bool b) ∧ Below w.heap.size w w' := by
 obtain rfl := k35_open hK
 obtain ⟨⟨t1, t2, t3, t4⟩, ht, hx⟩ := Option.bind_eq_some_iff.1 hx
 have cS := fun W (hb : Below w.heap.size w W) => schema_Find.calls A1 c1 l1 x.f0 t1 t2 t3 t4 W (Kd.C_below hr1 hb) hc1 (hT.below hb) ht
 have hne : B ≠ w.heap.size := by omega
 have hx := Option.some.inj hx
 dsimp only at hx
 clear hT hK ht hr1
 cases t4 with
 | false =>
  rw [if_neg (by decide)] at hx
  subst hx
  go_enter Tryd.func20, Tryd.ntmps20
  go_wp2_with (go_at_call 16; refine (cS _ (by repeat (first | exact Below.refl _ _ | apply below_alloc))).mono ?_; rintro e w' ⟨rfl, hb'⟩)
  go_ret
  exact ⟨rfl, by repeat (first | exact (((below_alloc (Below.refl _ _) _)).trans (hb'.mono (by simp))) | apply below_alloc | refine below_set ?_ (by have := hb'.size; simp at this ⊢; omega))⟩
 | true =>
  rw [if_pos rfl] at hx
  by_cases h2 : t2 = x.f1
  ·rw [if_pos h2] at hx
   subst hx
   subst h2
   go_enter Tryd.func20, Tryd.ntmps20
   go_wp2_with (go_at_call 16; refine (cS _ (by repeat (first | exact Below.refl _ _ | apply below_alloc))).mono ?_; rintro e w' ⟨rfl, hb'⟩; have hlt0 : w.heap.size < w'.heap.size := Nat.lt_of_lt_of_le (by simp) hb'.size; have y1 := Lib.cell?_alloc_some (.cells #[.string t1, .int .i64 x.f1, .bool t3] 35) ((hb'.cell (p := ⟨w.heap.size, 1, none⟩) (by simp)).trans ((Lib.cell_of_heap (heap_alloc_new w _) 1).trans rfl)); have y2 := Lib.cell?_alloc_some (.cells #[.string t1, .int .i64 x.f1, .bool t3] 35) ((hb'.cell (p := ⟨w.heap.size, 2, none⟩) (by simp)).trans ((Lib.cell_of_heap (heap_alloc_new w _) 2).trans rfl)))
   go_ret
   exact ⟨rfl, by repeat (first | exact (((below_alloc (Below.refl _ _) _)).trans (hb'.mono (by simp))) | apply below_alloc | refine below_set ?_ (by have := hb'.size; simp at this ⊢; omega))⟩
  ·rw [if_neg h2] at hx
   subst hx
   have b1 : (t2 == x.f1) = false := beq_eq_false_iff_ne.2 h2
   have b2 : (t2 != x.f1) = true := by rw [bne, b1]; rfl
   have b3 : decide (t2 = x.f1) = false := decide_eq_false h2
   go_enter Tryd.func20, Tryd.ntmps20
   go_wp2_with (go_at_call 16; refine (cS _ (by repeat (first | exact Below.refl _ _ | apply below_alloc))).mono ?_; rintro e w' ⟨rfl, hb'⟩; have hlt0 : w.heap.size < w'.heap.size := Nat.lt_of_lt_of_le (by simp) hb'.size; have y1 := Lib.cell?_alloc_some (.cells #[.string t1, .int .i64 t2, .bool t3] 35) ((hb'.cell (p := ⟨w.heap.size, 1, none⟩) (by simp)).trans ((Lib.cell_of_heap (heap_alloc_new w _) 1).trans rfl)); have y2 := Lib.cell?_alloc_some (.cells #[.string t1, .int .i64 t2, .bool t3] 35) ((hb'.cell (p := ⟨w.heap.size, 2, none⟩) (by simp)).trans ((Lib.cell_of_heap (heap_alloc_new w _) 2).trans rfl)))
   go_ret
   exact ⟨rfl, by repeat (first | exact (((below_alloc (Below.refl _ _) _)).trans (hb'.mono (by simp))) | apply below_alloc | refine below_set ?_ (by have := hb'.size; simp at this ⊢; omega))⟩
set_option maxHeartbeats 4000000 in
theorem schema_Within.calls (A0 : Option Addr) (c0 : Nat) (l0 : List S35) (A1 : Option Addr) (c1 : Nat) (l1 : List S35) (r : Bool) (w : World) (hr0 : Kd.C k35 w A0 l0.length l0) (hc0 : l0.length ≤ c0) (hr1 : Kd.C k35 w A1 l1.length l1) (hc1 : l1.length ≤ c1) (hT : Tabs w) (h : schema_Within.f l0 l1 = some r) :
  Calls Tryd.prog 10 #[.slice A0 l0.length c0, .slice A1 l1.length c1] w fun e w' => e = .returned (.bool r) ∧ Below w.heap.size w w' := by
 have inst : Inhabited S35 := ⟨z35⟩
 unfold schema_Within.f at h
 obtain ⟨i, hi, h⟩ := Option.bind_eq_some_iff.1 h
 obtain rfl := Option.some.inj h
 have eg : ∀ args w, (callFunc 20 args).run Tryd.prog w = .ok (.enter 20 args) w := enters_of Tryd.func20 (by kernel_rfl) rfl
 have hcon := fun W (hb : Below w.heap.size w W) (hB : w.heap.size < W.heap.size) (hcell : W.cell? ⟨w.heap.size, 0, none⟩ = some (.slice A1 l1.length c1)) =>
  hasField (α := S35) k35 (by decide) Tryd.sizeOf35 _ 20 #[.pointer (some ⟨w.heap.size, 0, none⟩)] eg A0 l0.length c0 l0 i W
   (fun W2 x cs b hx hb2 hK => (schema_Within1.calls w.heap.size A1 c1 l1 x cs b W2 (hT.below (hb.trans (hb2.mono hb.size))) (Nat.lt_of_lt_of_le hB hb2.size) ((hb2.cell (p := ⟨w.heap.size, 0, none⟩) hB).trans hcell) (Kd.C_below hr1 (hb.trans (hb2.mono hb.size))) hc1 hx hK).mono fun e w' ⟨he, hw⟩ => ⟨he, hb2.trans (hw.mono hb2.size)⟩)
   (Kd.C_below hr0 hb) hi
 have HCON := Aside0.mk hcon
 clear hr0 hr1 hT hi eg hcon
 go_enter Tryd.func10, Tryd.ntmps10
 go_wp2_with (go_at_call 19; refine (HCON.out _ ((Below.refl _ w).alloc (Nat.le_refl _) _) (by simp) ((Lib.cell_of_heap (heap_alloc_new w _) 0).trans rfl)).mono ?_; rintro e w' ⟨rfl, hb'⟩)
 go_ret
 exact ⟨rfl, ((Below.refl _ w).alloc (Nat.le_refl _) _).trans (hb'.mono (by simp))⟩

end Go.Proofs.YtbbfggfiknbdmaaDoor.A
