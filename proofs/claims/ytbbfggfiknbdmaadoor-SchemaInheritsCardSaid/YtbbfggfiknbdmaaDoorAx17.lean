-- By drv.py, the session's own driver round the kit's print: the machine's side of the laws, function by function. Not trusted: Lean checks it.
import Derived.Test.YtbbfggfiknbdmaaDoorAx0
import Derived.Test.YtbbfggfiknbdmaaDoorAx2
import Derived.Test.YtbbfggfiknbdmaaDoorAx11
import Derived.Test.YtbbfggfiknbdmaaDoorAx13
import Derived.Test.YtbbfggfiknbdmaaDoorAx15
import Derived.Test.YtbbfggfiknbdmaaDoorAx16
namespace Go.Proofs.YtbbfggfiknbdmaaDoor.A
open Go.RowKit Go.Proofs.YtbbfggfiknbdmaaDoorW.PrintWords Go.Proofs.YtbbfggfiknbdmaaDoorW.PrintLast Go.Proofs.YtbbfggfiknbdmaaDoorW.PrintMore
attribute [local go_sem] max2_int min2_int max_two min_two max_three min_three max_four min_four   -- for this text's walks alone
set_option linter.unusedVariables false
set_option linter.unusedSimpArgs false

/-! ### caduceuslaw04_SchemaInherits: function 3 -/
mutual
def caduceuslaw04_SchemaInherits.j0 : Nat → List (S35) → List (S35) → List (S41) → Bool → Option (Bool)
 | 0, _, _, _, _ => none
 | k + 1, x0, x1, x2, x25 => if x25 = true then ((caduceuslaw04_awake.f k).bind fun t252 => (some t252)) else ((schema_Merge.f k x0 x1).bind fun bt253 => ((schema_Merge.f k x1 x0).bind fun bt257 => (if bt253.2 = bt257.2 then ((caduceuslaw04_Refs.f k bt253.1).bind fun t261 => ((caduceuslaw04_Refs.f k bt257.1).bind fun t264 => ((caduceusref04_Same.f k t261 t264).bind fun t267 => (caduceuslaw04_SchemaInherits.j1 k x0 x1 x2 bt253.1 bt253.2 (!t267))))) else (caduceuslaw04_SchemaInherits.j1 k x0 x1 x2 bt253.1 bt253.2 true))))
def caduceuslaw04_SchemaInherits.j1 : Nat → List (S35) → List (S35) → List (S41) → List (S35) → Int → Bool → Option (Bool)
 | 0, _, _, _, _, _, _ => none
 | k + 1, x0, x1, x2, x7, x8, x49 => if x49 = true then (none) else (if x8 = 0 then ((schema_Within.f x0 x7).bind fun t269 => (if t269 = true then ((schema_Within.f x1 x7).bind fun t270 => (if t270 = true then (caduceuslaw04_SchemaInherits.j2 k x0 x1 x2 x7 ((x7.length : Int) != (wrap64 ((x0.length : Int) + (x1.length : Int))))) else (caduceuslaw04_SchemaInherits.j2 k x0 x1 x2 x7 true))) else (caduceuslaw04_SchemaInherits.j2 k x0 x1 x2 x7 true))) else ((caduceuslaw04_awake.f k).bind fun t268 => (if t268 = true then (some ((x7.length : Int) == 0)) else (none))))
def caduceuslaw04_SchemaInherits.j2 : Nat → List (S35) → List (S35) → List (S41) → List (S35) → Bool → Option (Bool)
 | 0, _, _, _, _, _ => none
 | k + 1, x0, x1, x2, x7, x77 => if x77 = true then (none) else (caduceuslaw04_SchemaInherits.l0 k x0 x1 x2 x7 false 0)
def caduceuslaw04_SchemaInherits.l0 : Nat → List (S35) → List (S35) → List (S41) → List (S35) → Bool → Int → Option (Bool)
 | 0, _, _, _, _, _, _ => none
 | k + 1, x0, x1, x2, x7, x11, x12 => if x12 < (x1.length : Int) then (if x11 = true then (caduceuslaw04_SchemaInherits.l0 k x0 x1 x2 x7 true (wrap64 (x12 + 1))) else (if 0 ≤ x12 then (caduceuslaw04_SchemaInherits.l0 k x0 x1 x2 x7 ((rd_T35 x1 x12).f2) (wrap64 (x12 + 1))) else (none))) else ((caduceuslaw04_awake.f k).bind fun t272 => (if t272 = true then (if x11 = true then (some true) else ((schema_Fits.f k x0 x2).bind fun t273 => (if t273 = 0 then ((schema_Fits.f k x7 x2).bind fun t274 => (some (t274 == 0))) else (some true)))) else (none)))
end
def caduceuslaw04_SchemaInherits.f (k : Nat) (l0 : List (S35)) (l1 : List (S35)) (l2 : List (S41)) : Option (Bool) := (caduceuslaw04_Few.f k l0).bind fun t249 => (if t249 = true then ((caduceuslaw04_Few.f k l1).bind fun t250 => (if t250 = true then ((caduceuslaw04_FewAttrs.f k l2).bind fun t251 => (caduceuslaw04_SchemaInherits.j0 k l0 l1 l2 (!t251))) else (caduceuslaw04_SchemaInherits.j0 k l0 l1 l2 true))) else (caduceuslaw04_SchemaInherits.j0 k l0 l1 l2 true))
theorem caduceuslaw04_SchemaInherits.mono_l : ∀ k, (∀ y0 y1 y2 y3, LeO (caduceuslaw04_SchemaInherits.j0 k y0 y1 y2 y3) (caduceuslaw04_SchemaInherits.j0 (k + 1) y0 y1 y2 y3)) ∧ (∀ y0 y1 y2 y3 y4 y5, LeO (caduceuslaw04_SchemaInherits.j1 k y0 y1 y2 y3 y4 y5) (caduceuslaw04_SchemaInherits.j1 (k + 1) y0 y1 y2 y3 y4 y5)) ∧ (∀ y0 y1 y2 y3 y4, LeO (caduceuslaw04_SchemaInherits.j2 k y0 y1 y2 y3 y4) (caduceuslaw04_SchemaInherits.j2 (k + 1) y0 y1 y2 y3 y4)) ∧ (∀ y0 y1 y2 y3 y4 y5, LeO (caduceuslaw04_SchemaInherits.l0 k y0 y1 y2 y3 y4 y5) (caduceuslaw04_SchemaInherits.l0 (k + 1) y0 y1 y2 y3 y4 y5))
 | 0 => ⟨fun _ _ _ _ r h => by simp [caduceuslaw04_SchemaInherits.j0] at h, fun _ _ _ _ _ _ r h => by simp [caduceuslaw04_SchemaInherits.j1] at h, fun _ _ _ _ _ r h => by simp [caduceuslaw04_SchemaInherits.j2] at h, fun _ _ _ _ _ _ r h => by simp [caduceuslaw04_SchemaInherits.l0] at h⟩
 | k + 1 => by
  obtain ⟨ih0, ih1, ih2, ih3⟩ := caduceuslaw04_SchemaInherits.mono_l k
  refine ⟨?_, ?_, ?_, ?_⟩
  all_goals intros
  all_goals first | unfold caduceuslaw04_SchemaInherits.j0 | unfold caduceuslaw04_SchemaInherits.j1 | unfold caduceuslaw04_SchemaInherits.j2 | unfold caduceuslaw04_SchemaInherits.l0
  all_goals repeat' first
   | (with_reducible exact ih0 _ _ _ _)
   | (with_reducible exact ih1 _ _ _ _ _ _)
   | (with_reducible exact ih2 _ _ _ _ _)
   | (with_reducible exact ih3 _ _ _ _ _ _)
   | (with_reducible exact caduceuslaw04_Few.mono _ _)
   | (with_reducible exact caduceuslaw04_FewAttrs.mono _ _)
   | (with_reducible exact caduceuslaw04_Refs.mono _ _)
   | (with_reducible exact caduceuslaw04_awake.mono _)
   | (with_reducible exact caduceusref04_Same.mono _ _ _)
   | (with_reducible exact schema_Fits.mono _ _ _)
   | (with_reducible exact schema_Merge.mono _ _ _)
   | (with_reducible exact LeO.refl _)
   | (with_reducible exact LeO.none _)
   | (with_reducible refine LeO.ite ?_ ?_)
   | (with_reducible refine LeO.bind ?_ (fun _ => ?_))
   | exact ih0 _ _ _ _
   | exact ih1 _ _ _ _ _ _
   | exact ih2 _ _ _ _ _
   | exact ih3 _ _ _ _ _ _
   | exact caduceuslaw04_Few.mono _ _
   | exact caduceuslaw04_FewAttrs.mono _ _
   | exact caduceuslaw04_Refs.mono _ _
   | exact caduceuslaw04_awake.mono _
   | exact caduceusref04_Same.mono _ _ _
   | exact schema_Fits.mono _ _ _
   | exact schema_Merge.mono _ _ _
   | exact LeO.none _
   | refine LeO.ite ?_ ?_
   | refine LeO.bind ?_ (fun _ => ?_)
theorem caduceuslaw04_SchemaInherits.mono : ∀ a0 a1 a2 k, LeO (caduceuslaw04_SchemaInherits.f k a0 a1 a2) (caduceuslaw04_SchemaInherits.f (k + 1) a0 a1 a2) := by
 intro a0 a1 a2 k
 obtain ⟨ih0, ih1, ih2, ih3⟩ := caduceuslaw04_SchemaInherits.mono_l k
 unfold caduceuslaw04_SchemaInherits.f
 repeat' first
   | (with_reducible exact ih0 _ _ _ _)
   | (with_reducible exact ih1 _ _ _ _ _ _)
   | (with_reducible exact ih2 _ _ _ _ _)
   | (with_reducible exact ih3 _ _ _ _ _ _)
   | (with_reducible exact caduceuslaw04_Few.mono _ _)
   | (with_reducible exact caduceuslaw04_FewAttrs.mono _ _)
   | (with_reducible exact caduceuslaw04_Refs.mono _ _)
   | (with_reducible exact caduceuslaw04_awake.mono _)
   | (with_reducible exact caduceusref04_Same.mono _ _ _)
   | (with_reducible exact schema_Fits.mono _ _ _)
   | (with_reducible exact schema_Merge.mono _ _ _)
   | (with_reducible exact LeO.refl _)
   | (with_reducible exact LeO.none _)
   | (with_reducible refine LeO.ite ?_ ?_)
   | (with_reducible refine LeO.bind ?_ (fun _ => ?_))
   | exact ih0 _ _ _ _
   | exact ih1 _ _ _ _ _ _
   | exact ih2 _ _ _ _ _
   | exact ih3 _ _ _ _ _ _
   | exact caduceuslaw04_Few.mono _ _
   | exact caduceuslaw04_FewAttrs.mono _ _
   | exact caduceuslaw04_Refs.mono _ _
   | exact caduceuslaw04_awake.mono _
   | exact caduceusref04_Same.mono _ _ _
   | exact schema_Fits.mono _ _ _
   | exact schema_Merge.mono _ _ _
   | exact LeO.none _
   | refine LeO.ite ?_ ?_
   | refine LeO.bind ?_ (fun _ => ?_)
set_option maxHeartbeats 8000000 in
set_option maxRecDepth 100000 in
theorem caduceuslaw04_SchemaInherits.calls (k : Nat) (A0 : Option Addr) (c0 : Nat) (l0 : List (S35)) (A1 : Option Addr) (c1 : Nat) (l1 : List (S35)) (A2 : Option Addr) (c2 : Nat) (l2 : List (S41)) (r : Bool) (w : World) (hr0 : Kd.C k35 w A0 l0.length l0) (hc0 : l0.length ≤ c0) (hr1 : Kd.C k35 w A1 l1.length l1) (hc1 : l1.length ≤ c1) (hr2 : Kd.C k41 w A2 l2.length l2) (hc2 : l2.length ≤ c2) (hT : Tabs w) (h : caduceuslaw04_SchemaInherits.f k l0 l1 l2 = some r) :
  Calls Tryd.prog 3 #[.slice A0 l0.length c0, .slice A1 l1.length c1, .slice A2 l2.length c2] w fun e w' => e = .returned (.bool r) ∧ Below w.heap.size w w' := by
 have HR0 := Aside0.mk hr0
 have HC0 := Aside0.mk hc0
 clear hr0 hc0
 have HR1 := Aside0.mk hr1
 have HC1 := Aside0.mk hc1
 clear hr1 hc1
 have HR2 := Aside0.mk hr2
 have HC2 := Aside0.mk hc2
 clear hr2 hc2
 have HB := Aside0.mk (Below.refl w.heap.size w)
 have H : ((caduceuslaw04_Few.f k l0).bind fun t249 => (if t249 = true then ((caduceuslaw04_Few.f k l1).bind fun t250 => (if t250 = true then ((caduceuslaw04_FewAttrs.f k l2).bind fun t251 => (caduceuslaw04_SchemaInherits.j0 k l0 l1 l2 (!t251))) else (caduceuslaw04_SchemaInherits.j0 k l0 l1 l2 true))) else (caduceuslaw04_SchemaInherits.j0 k l0 l1 l2 true))) = some r := h
 clear h
 have HT := Aside0.mk hT
 clear hT
 have HC4 := Aside0.mk H
 clear H
 go_enter Tryd.func3, Tryd.ntmps3
 go_upto_region 1 with (fail)
 go_cut [25] (fun v25 wc => ∃ (kq : Nat) (x25_3 : Bool), v25 = .bool x25_3 ∧ Aside0 (caduceuslaw04_SchemaInherits.j0 kq l0 l1 l2 x25_3 = some r) ∧ Aside0 (kq ≤ k) ∧ Aside0 (Below w.heap.size w wc))
 case first =>
  have H := HC4.out
  clear HC4
  replace H := Option.bind_eq_some_iff.mp H
  obtain ⟨t249, A50, H⟩ := H
  replace H : (if t249 = true then ((caduceuslaw04_Few.f k l1).bind fun t250 => (if t250 = true then ((caduceuslaw04_FewAttrs.f k l2).bind fun t251 => (caduceuslaw04_SchemaInherits.j0 k l0 l1 l2 (!t251))) else (caduceuslaw04_SchemaInherits.j0 k l0 l1 l2 true))) else (caduceuslaw04_SchemaInherits.j0 k l0 l1 l2 true)) = some r := H
  have A5 := Aside0.mk A50
  clear A50
  by_cases c6 : t249 = true
  ·subst c6
   have H1 : ((caduceuslaw04_Few.f k l1).bind fun t250 => (if t250 = true then ((caduceuslaw04_FewAttrs.f k l2).bind fun t251 => (caduceuslaw04_SchemaInherits.j0 k l0 l1 l2 (!t251))) else (caduceuslaw04_SchemaInherits.j0 k l0 l1 l2 true))) = some r := by rw [if_pos rfl] at H; exact H
   clear H
   have H := H1
   clear H1
   replace H := Option.bind_eq_some_iff.mp H
   obtain ⟨t250, A70, H⟩ := H
   replace H : (if t250 = true then ((caduceuslaw04_FewAttrs.f k l2).bind fun t251 => (caduceuslaw04_SchemaInherits.j0 k l0 l1 l2 (!t251))) else (caduceuslaw04_SchemaInherits.j0 k l0 l1 l2 true)) = some r := H
   have A7 := Aside0.mk A70
   clear A70
   by_cases c8 : t250 = true
   ·subst c8
    have H1 : ((caduceuslaw04_FewAttrs.f k l2).bind fun t251 => (caduceuslaw04_SchemaInherits.j0 k l0 l1 l2 (!t251))) = some r := by rw [if_pos rfl] at H; exact H
    clear H
    have H := H1
    clear H1
    replace H := Option.bind_eq_some_iff.mp H
    obtain ⟨t251, A90, H⟩ := H
    replace H : (caduceuslaw04_SchemaInherits.j0 k l0 l1 l2 (!t251)) = some r := H
    have A9 := Aside0.mk A90
    clear A90
    have H' := Aside0.mk H
    clear H
    go_wp2_with (first | ((with_reducible refine gate_callee (f := 4) rfl ?_); refine goesA (some 14) Tryd.func4 #[.slice A0 l0.length c0] ?_; (with_reducible refine (caduceuslaw04_Few.calls k _ _ l0 true _ ?side1 ?side2 A5.out).mono ?_); (case side1 => repeat (first | exact (Kd.C_below HR0.out HB.out) | (with_reducible refine Kd.C_alloc ?_ _) | (with_reducible refine Kd.C_drewN ?_ _) | (with_reducible refine Kd.C_drew ?_))); (case side2 => exact HC0.out); rintro e w' ⟨rfl, ⟨nd, rfl⟩⟩; refine ⟨_, rfl, ?_⟩) | (go_at_call 4; (with_reducible refine (caduceuslaw04_Few.calls k _ _ l1 true _ ?side1 ?side2 A7.out).mono ?_); (case side1 => repeat (first | exact (Kd.C_below HR1.out (bwA)) | (with_reducible refine Kd.C_alloc ?_ _) | (with_reducible refine Kd.C_drewN ?_ _) | (with_reducible refine Kd.C_drew ?_))); (case side2 => exact HC1.out); rintro e w' ⟨rfl, ⟨nd, rfl⟩⟩) | (go_at_call 5; (with_reducible refine (caduceuslaw04_FewAttrs.calls k _ _ l2 t251 _ ?side1 ?side2 A9.out).mono ?_); (case side1 => repeat (first | exact (Kd.C_below HR2.out (bwA)) | (with_reducible refine Kd.C_alloc ?_ _) | (with_reducible refine Kd.C_drewN ?_ _) | (with_reducible refine Kd.C_drew ?_))); (case side2 => exact HC2.out); rintro e w' ⟨rfl, ⟨nd, rfl⟩⟩))
    go_meet
    case rel => exact ⟨_, (!t251), (endS), H', ⟨by first | omega | exact Nat.le_refl _⟩, ⟨bwA⟩⟩
   ·replace c8 := Bool.eq_false_iff.mpr c8
    subst c8
    have H1 : (caduceuslaw04_SchemaInherits.j0 k l0 l1 l2 true) = some r := by rw [if_neg (show ¬ (false = true) by decide)] at H; exact H
    clear H
    have H := H1
    clear H1
    have H' := Aside0.mk H
    clear H
    go_wp2_with (first | ((with_reducible refine gate_callee (f := 4) rfl ?_); refine goesA (some 14) Tryd.func4 #[.slice A0 l0.length c0] ?_; (with_reducible refine (caduceuslaw04_Few.calls k _ _ l0 true _ ?side1 ?side2 A5.out).mono ?_); (case side1 => repeat (first | exact (Kd.C_below HR0.out HB.out) | (with_reducible refine Kd.C_alloc ?_ _) | (with_reducible refine Kd.C_drewN ?_ _) | (with_reducible refine Kd.C_drew ?_))); (case side2 => exact HC0.out); rintro e w' ⟨rfl, ⟨nd, rfl⟩⟩; refine ⟨_, rfl, ?_⟩) | (go_at_call 4; (with_reducible refine (caduceuslaw04_Few.calls k _ _ l1 false _ ?side1 ?side2 A7.out).mono ?_); (case side1 => repeat (first | exact (Kd.C_below HR1.out (bwA)) | (with_reducible refine Kd.C_alloc ?_ _) | (with_reducible refine Kd.C_drewN ?_ _) | (with_reducible refine Kd.C_drew ?_))); (case side2 => exact HC1.out); rintro e w' ⟨rfl, ⟨nd, rfl⟩⟩))
    go_meet
    case rel => exact ⟨_, (true), (endS), H', ⟨by first | omega | exact Nat.le_refl _⟩, ⟨bwA⟩⟩
  ·replace c6 := Bool.eq_false_iff.mpr c6
   subst c6
   have H1 : (caduceuslaw04_SchemaInherits.j0 k l0 l1 l2 true) = some r := by rw [if_neg (show ¬ (false = true) by decide)] at H; exact H
   clear H
   have H := H1
   clear H1
   have H' := Aside0.mk H
   clear H
   go_wp2_with (first | ((with_reducible refine gate_callee (f := 4) rfl ?_); refine goesA (some 14) Tryd.func4 #[.slice A0 l0.length c0] ?_; (with_reducible refine (caduceuslaw04_Few.calls k _ _ l0 false _ ?side1 ?side2 A5.out).mono ?_); (case side1 => repeat (first | exact (Kd.C_below HR0.out HB.out) | (with_reducible refine Kd.C_alloc ?_ _) | (with_reducible refine Kd.C_drewN ?_ _) | (with_reducible refine Kd.C_drew ?_))); (case side2 => exact HC0.out); rintro e w' ⟨rfl, ⟨nd, rfl⟩⟩; refine ⟨_, rfl, ?_⟩))
   go_meet
   case rel => exact ⟨_, (true), (endS), H', ⟨by first | omega | exact Nat.le_refl _⟩, ⟨bwA⟩⟩
 case rest =>
  clear HC4
  try clear c1
  try clear c2
  try clear p2
  try clear c3
  try clear c4
  try clear c6
  try clear c8
  obtain ⟨kq, x25_3, rfl, HA, HJ3, HB⟩ := hcut
  cases kq with
  | zero => exact absurd HA.out (by simp [caduceuslaw04_SchemaInherits.j0])
  | succ kj3 =>
   have H := HA.out
   clear HA
   simp only [caduceuslaw04_SchemaInherits.j0] at H
   by_cases c10 : x25_3 = true
   ·subst c10
    have H1 : ((caduceuslaw04_awake.f kj3).bind fun t252 => (some t252)) = some r := by rw [if_pos rfl] at H; exact H
    clear H
    have H := H1
    clear H1
    replace H := Option.bind_eq_some_iff.mp H
    obtain ⟨t252, A110, H⟩ := H
    replace H : (some t252) = some r := H
    have A11 := Aside0.mk A110
    clear A110
    obtain rfl := Option.some.inj H
    go_wp2_with (first | ((with_reducible refine gate_callee (f := 6) rfl ?_); refine goesA (some 26) Tryd.func6 #[] ?_; (with_reducible refine (caduceuslaw04_awake.calls kj3  t252 _ ?side1 A11.out).mono ?_); (case side1 => exact Tabs.below HT.out (bwA)); rintro e w12 ⟨rfl, hb⟩; refine ⟨_, rfl, ?_⟩; have n0_ := Aside0.mk (below_step (bwA) hb); clear HB; have HB := n0_; clear n0_; (try clear hb); (try clear hb2); (try clear hk); (try clear hi)))
    go_ret
    exact ⟨endA, bwA⟩
   ·replace c10 := Bool.eq_false_iff.mpr c10
    subst c10
    have H1 : ((schema_Merge.f kj3 l0 l1).bind fun bt253 => ((schema_Merge.f kj3 l1 l0).bind fun bt257 => (if bt253.2 = bt257.2 then ((caduceuslaw04_Refs.f kj3 bt253.1).bind fun t261 => ((caduceuslaw04_Refs.f kj3 bt257.1).bind fun t264 => ((caduceusref04_Same.f kj3 t261 t264).bind fun t267 => (caduceuslaw04_SchemaInherits.j1 kj3 l0 l1 l2 bt253.1 bt253.2 (!t267))))) else (caduceuslaw04_SchemaInherits.j1 kj3 l0 l1 l2 bt253.1 bt253.2 true)))) = some r := by rw [if_neg (show ¬ (false = true) by decide)] at H; exact H
    clear H
    have H := H1
    clear H1
    replace H := Option.bind_eq_some_iff.mp H
    obtain ⟨⟨t253, t254⟩, A130, H⟩ := H
    replace H : ((schema_Merge.f kj3 l1 l0).bind fun bt257 => (if t254 = bt257.2 then ((caduceuslaw04_Refs.f kj3 t253).bind fun t261 => ((caduceuslaw04_Refs.f kj3 bt257.1).bind fun t264 => ((caduceusref04_Same.f kj3 t261 t264).bind fun t267 => (caduceuslaw04_SchemaInherits.j1 kj3 l0 l1 l2 t253 t254 (!t267))))) else (caduceuslaw04_SchemaInherits.j1 kj3 l0 l1 l2 t253 t254 true))) = some r := H
    have A13 := Aside0.mk A130
    clear A130
    replace H := Option.bind_eq_some_iff.mp H
    obtain ⟨⟨t257, t258⟩, A140, H⟩ := H
    replace H : (if t254 = t258 then ((caduceuslaw04_Refs.f kj3 t253).bind fun t261 => ((caduceuslaw04_Refs.f kj3 t257).bind fun t264 => ((caduceusref04_Same.f kj3 t261 t264).bind fun t267 => (caduceuslaw04_SchemaInherits.j1 kj3 l0 l1 l2 t253 t254 (!t267))))) else (caduceuslaw04_SchemaInherits.j1 kj3 l0 l1 l2 t253 t254 true)) = some r := H
    have A14 := Aside0.mk A140
    clear A140
    have HC15 := Aside0.mk H
    clear H
    go_upto_region 5 with (first | ((with_reducible refine gate_callee (f := 7) rfl ?_); refine goesA (some 30) Tryd.func7 #[.slice A0 l0.length c0, .slice A1 l1.length c1] ?_; (with_reducible refine (schema_Merge.calls kj3 _ _ l0 _ _ l1 t253 t254 _ ?side1 ?side2 ?side3 ?side4 ?side5 A13.out).mono ?_); (case side1 => repeat (first | exact (Kd.C_below HR0.out HB.out) | (with_reducible refine Kd.C_alloc ?_ _) | (with_reducible refine Kd.C_drewN ?_ _) | (with_reducible refine Kd.C_drew ?_))); (case side2 => exact HC0.out); (case side3 => repeat (first | exact (Kd.C_below HR1.out HB.out) | (with_reducible refine Kd.C_alloc ?_ _) | (with_reducible refine Kd.C_drewN ?_ _) | (with_reducible refine Kd.C_drew ?_))); (case side4 => exact HC1.out); (case side5 => exact Tabs.below HT.out (bwA)); rintro e w16 ⟨v255, rfl, ho0, hb⟩; refine ⟨_, rfl, ?_⟩; have n0_ := Aside0.mk (Kd.R_lower ho0 (below_size (bwA))); have n1_ := Aside0.mk (below_step (bwA) hb); clear HB; have HO256 := n0_; have HB := n1_; clear n0_ n1_; (try clear hb); (try clear hb2); (try clear hk); (try clear hi); (try clear ho0)) | ((with_reducible refine gate_callee (f := 7) rfl ?_); refine goesA (some 36) Tryd.func7 #[.slice A1 l1.length c1, .slice A0 l0.length c0] ?_; (with_reducible refine (schema_Merge.calls kj3 _ _ l1 _ _ l0 t257 t258 _ ?side1 ?side2 ?side3 ?side4 ?side5 A14.out).mono ?_); (case side1 => repeat (first | exact (Kd.C_below HR1.out HB.out) | (with_reducible refine Kd.C_alloc ?_ _) | (with_reducible refine Kd.C_drewN ?_ _) | (with_reducible refine Kd.C_drew ?_))); (case side2 => exact HC1.out); (case side3 => repeat (first | exact (Kd.C_below HR0.out HB.out) | (with_reducible refine Kd.C_alloc ?_ _) | (with_reducible refine Kd.C_drewN ?_ _) | (with_reducible refine Kd.C_drew ?_))); (case side4 => exact HC0.out); (case side5 => exact Tabs.below HT.out (bwA)); rintro e w17 ⟨v259, rfl, ho0, hb⟩; refine ⟨_, rfl, ?_⟩; have n0_ := Aside0.mk (Kd.R_elder' (by (with_reducible repeat (first | apply Kd.R_alloc | apply Kd.R_drewN | apply Kd.R_drew)); exact HO256.out) (Kd.R_base ho0) hb); have n1_ := Aside0.mk (Kd.R_lower (Kd.R_new' ho0 (Kd.R_lt (by (with_reducible repeat (first | apply Kd.R_alloc | apply Kd.R_drewN | apply Kd.R_drew)); exact HO256.out))) (below_size (bwA))); have n2_ := Aside0.mk (below_step (bwA) hb); clear HO256; clear HB; have HO256 := n0_; have HO260 := n1_; have HB := n2_; clear n0_ n1_ n2_; (try clear hb); (try clear hb2); (try clear hk); (try clear hi); (try clear ho0)))
    (try simp only [Act.put, List.setIfInBounds_toArray, List.set_cons_zero, List.set_cons_succ])
    go_cut [49] (fun v49 wc => ∃ (kq : Nat) (x49_14 : Bool), v49 = .bool x49_14 ∧ Aside0 (caduceuslaw04_SchemaInherits.j1 kq l0 l1 l2 t253 t254 x49_14 = some r) ∧ Aside0 (kq ≤ kj3) ∧ Aside0 (Kd.R k35 35 wc w.heap.size (fun _ => True) v255 t253) ∧ Aside0 (Below w.heap.size w wc))
    case first =>
     have H := HC15.out
     clear HC15
     by_cases c18 : t254 = t258
     ·rw [if_pos c18] at H
      have c18b0 : (t254 == t258) = true := beq_iff_eq.mpr c18
      have c18b1 : (t254 != t258) = false := bne_eq_false_iff_eq.mpr c18
      clear c18
      (first | rw [c18b0] | (simp only [i64_w, i32_w]; rw [c18b0]) | skip)
      replace H := Option.bind_eq_some_iff.mp H
      obtain ⟨t261, A190, H⟩ := H
      replace H : ((caduceuslaw04_Refs.f kj3 t257).bind fun t264 => ((caduceusref04_Same.f kj3 t261 t264).bind fun t267 => (caduceuslaw04_SchemaInherits.j1 kj3 l0 l1 l2 t253 t254 (!t267)))) = some r := H
      have A19 := Aside0.mk A190
      clear A190
      replace H := Option.bind_eq_some_iff.mp H
      obtain ⟨t264, A200, H⟩ := H
      replace H : ((caduceusref04_Same.f kj3 t261 t264).bind fun t267 => (caduceuslaw04_SchemaInherits.j1 kj3 l0 l1 l2 t253 t254 (!t267))) = some r := H
      have A20 := Aside0.mk A200
      clear A200
      replace H := Option.bind_eq_some_iff.mp H
      obtain ⟨t267, A210, H⟩ := H
      replace H : (caduceuslaw04_SchemaInherits.j1 kj3 l0 l1 l2 t253 t254 (!t267)) = some r := H
      have A21 := Aside0.mk A210
      clear A210
      have H' := Aside0.mk H
      clear H
      obtain ⟨Ao22, co22, eo22⟩ := Kd.R_slice HO256.out
      subst eo22
      go_wp2_with (first | (go_at_call 9; (with_reducible refine (caduceuslaw04_Refs.calls kj3 _ _ t253 t261 _ ?side1 ?side2 A19.out).mono ?_); (case side1 => repeat (first | exact (Kd.R_reads' HO256.out).2.2 | (with_reducible refine Kd.C_alloc ?_ _) | (with_reducible refine Kd.C_drewN ?_ _) | (with_reducible refine Kd.C_drew ?_))); (case side2 => exact (Kd.R_reads' HO256.out).2.1); rintro e w23 ⟨v262, rfl, ho0, hb⟩; have n0_ := Aside0.mk (Kd.R_below (by (with_reducible repeat (first | apply Kd.R_alloc | apply Kd.R_drewN | apply Kd.R_drew)); exact HO256.out) hb); have n1_ := Aside0.mk (Kd.R_below (by (with_reducible repeat (first | apply Kd.R_alloc | apply Kd.R_drewN | apply Kd.R_drew)); exact HO260.out) hb); have n2_ := Aside0.mk (Kd.R_lower ho0 (below_size (bwA))); have n3_ := Aside0.mk (below_step (bwA) hb); clear HO256; clear HO260; clear HB; have HO256 := n0_; have HO260 := n1_; have HO263 := n2_; have HB := n3_; clear n0_ n1_ n2_ n3_; (try clear hb); (try clear hb2); (try clear hk); (try clear hi); (try clear ho0); obtain ⟨Ao24, co24, eo24⟩ := Kd.R_slice HO260.out; subst eo24) | (go_at_call 9; (with_reducible refine (caduceuslaw04_Refs.calls kj3 _ _ t257 t264 _ ?side1 ?side2 A20.out).mono ?_); (case side1 => repeat (first | exact (Kd.R_reads' HO260.out).2.2 | (with_reducible refine Kd.C_alloc ?_ _) | (with_reducible refine Kd.C_drewN ?_ _) | (with_reducible refine Kd.C_drew ?_))); (case side2 => exact (Kd.R_reads' HO260.out).2.1); rintro e w25 ⟨v265, rfl, ho0, hb⟩; have n0_ := Aside0.mk (Kd.R_below (by (with_reducible repeat (first | apply Kd.R_alloc | apply Kd.R_drewN | apply Kd.R_drew)); exact HO256.out) hb); have n1_ := Aside0.mk (Kd.R_below (by (with_reducible repeat (first | apply Kd.R_alloc | apply Kd.R_drewN | apply Kd.R_drew)); exact HO260.out) hb); have n2_ := Aside0.mk (Kd.R_elder' (by (with_reducible repeat (first | apply Kd.R_alloc | apply Kd.R_drewN | apply Kd.R_drew)); exact HO263.out) (Kd.R_base ho0) hb); have n3_ := Aside0.mk (Kd.R_lower (Kd.R_new' ho0 (Kd.R_lt (by (with_reducible repeat (first | apply Kd.R_alloc | apply Kd.R_drewN | apply Kd.R_drew)); exact HO263.out))) (below_size (bwA))); have n4_ := Aside0.mk (below_step (bwA) hb); clear HO256; clear HO260; clear HO263; clear HB; have HO256 := n0_; have HO260 := n1_; have HO263 := n2_; have HO266 := n3_; have HB := n4_; clear n0_ n1_ n2_ n3_ n4_; (try clear hb); (try clear hb2); (try clear hk); (try clear hi); (try clear ho0); obtain ⟨Ao26, co26, eo26⟩ := Kd.R_slice HO263.out; subst eo26; obtain ⟨Ao27, co27, eo27⟩ := Kd.R_slice HO266.out; subst eo27) | (go_at_call 8; (with_reducible refine (caduceusref04_Same.calls kj3 _ _ t261 _ _ t264 t267 _ ?side1 ?side2 ?side3 ?side4 A21.out).mono ?_); (case side1 => repeat (first | exact (Kd.R_reads' HO263.out).2.2 | (with_reducible refine Kd.C_alloc ?_ _) | (with_reducible refine Kd.C_drewN ?_ _) | (with_reducible refine Kd.C_drew ?_))); (case side2 => exact (Kd.R_reads' HO263.out).2.1); (case side3 => repeat (first | exact (Kd.R_reads' HO266.out).2.2 | (with_reducible refine Kd.C_alloc ?_ _) | (with_reducible refine Kd.C_drewN ?_ _) | (with_reducible refine Kd.C_drew ?_))); (case side4 => exact (Kd.R_reads' HO266.out).2.1); rintro e w' ⟨rfl, ⟨nd, rfl⟩⟩))
      go_meet
      case rel => exact ⟨_, (!t267), (endS), H', ⟨by have := HJ3.out; first | omega | exact Nat.le_refl _⟩, ⟨by (with_reducible repeat (first | apply Kd.R_alloc | apply Kd.R_drewN | apply Kd.R_drew)); exact Kd.R_mono HO256.out (fun _ hk => trivial)⟩, ⟨bwA⟩⟩
     ·rw [if_neg c18] at H
      have c18b0 : (t254 == t258) = false := beq_eq_false_iff_ne.mpr c18
      have c18b1 : (t254 != t258) = true := bne_iff_ne.mpr c18
      (first | rw [c18b0] | (simp only [i64_w, i32_w]; rw [c18b0]) | skip)
      have H' := Aside0.mk H
      clear H
      go_wp2
      go_meet
      case rel => exact ⟨_, (true), (endS), H', ⟨by have := HJ3.out; first | omega | exact Nat.le_refl _⟩, ⟨by (with_reducible repeat (first | apply Kd.R_alloc | apply Kd.R_drewN | apply Kd.R_drew)); exact Kd.R_mono HO256.out (fun _ hk => trivial)⟩, ⟨bwA⟩⟩
    case rest =>
     clear HC15
     try clear c1
     try clear c2
     try clear p2
     try clear c3
     try clear c4
     try clear c6
     try clear c7
     try clear c8
     try clear c10
     try clear c18
     try clear c18b0
     try clear c18b1
     try clear p2
     obtain ⟨kq, x49_14, rfl, HA, HJ14, HO_7, HB⟩ := hcut
     cases kq with
     | zero => exact absurd HA.out (by simp [caduceuslaw04_SchemaInherits.j1])
     | succ kj14 =>
      have H := HA.out
      clear HA
      simp only [caduceuslaw04_SchemaInherits.j1] at H
      by_cases c28 : x49_14 = true
      ·subst c28
       have H1 : (none) = some r := by rw [if_pos rfl] at H; exact H
       clear H
       have H := H1
       clear H1
       exact absurd H (by simp)
      ·replace c28 := Bool.eq_false_iff.mpr c28
       subst c28
       have H1 : (if t254 = 0 then ((schema_Within.f l0 t253).bind fun t269 => (if t269 = true then ((schema_Within.f l1 t253).bind fun t270 => (if t270 = true then (caduceuslaw04_SchemaInherits.j2 kj14 l0 l1 l2 t253 ((t253.length : Int) != (wrap64 ((l0.length : Int) + (l1.length : Int))))) else (caduceuslaw04_SchemaInherits.j2 kj14 l0 l1 l2 t253 true))) else (caduceuslaw04_SchemaInherits.j2 kj14 l0 l1 l2 t253 true))) else ((caduceuslaw04_awake.f kj14).bind fun t268 => (if t268 = true then (some ((t253.length : Int) == 0)) else (none)))) = some r := by rw [if_neg (show ¬ (false = true) by decide)] at H; exact H
       clear H
       have H := H1
       clear H1
       by_cases c29 : t254 = 0
       ·rw [if_pos c29] at H
        have c29b0 : (t254 == 0) = true := beq_iff_eq.mpr c29
        have c29b1 : (t254 != 0) = false := bne_eq_false_iff_eq.mpr c29
        clear c29
        have HC30 := Aside0.mk H
        clear H
        go_upto_region 9 with (fail)
        go_cut [77] (fun v77 wc => ∃ (kq : Nat) (x77_29 : Bool), v77 = .bool x77_29 ∧ Aside0 (caduceuslaw04_SchemaInherits.j2 kq l0 l1 l2 t253 x77_29 = some r) ∧ Aside0 (kq ≤ kj14) ∧ Aside0 (Kd.R k35 35 wc w.heap.size (fun _ => True) v255 t253) ∧ Aside0 (Below w.heap.size w wc))
        case first =>
         have H := HC30.out
         clear HC30
         replace H := Option.bind_eq_some_iff.mp H
         obtain ⟨t269, A310, H⟩ := H
         replace H : (if t269 = true then ((schema_Within.f l1 t253).bind fun t270 => (if t270 = true then (caduceuslaw04_SchemaInherits.j2 kj14 l0 l1 l2 t253 ((t253.length : Int) != (wrap64 ((l0.length : Int) + (l1.length : Int))))) else (caduceuslaw04_SchemaInherits.j2 kj14 l0 l1 l2 t253 true))) else (caduceuslaw04_SchemaInherits.j2 kj14 l0 l1 l2 t253 true)) = some r := H
         have A31 := Aside0.mk A310
         clear A310
         by_cases c32 : t269 = true
         ·subst c32
          have H1 : ((schema_Within.f l1 t253).bind fun t270 => (if t270 = true then (caduceuslaw04_SchemaInherits.j2 kj14 l0 l1 l2 t253 ((t253.length : Int) != (wrap64 ((l0.length : Int) + (l1.length : Int))))) else (caduceuslaw04_SchemaInherits.j2 kj14 l0 l1 l2 t253 true))) = some r := by rw [if_pos rfl] at H; exact H
          clear H
          have H := H1
          clear H1
          replace H := Option.bind_eq_some_iff.mp H
          obtain ⟨t270, A330, H⟩ := H
          replace H : (if t270 = true then (caduceuslaw04_SchemaInherits.j2 kj14 l0 l1 l2 t253 ((t253.length : Int) != (wrap64 ((l0.length : Int) + (l1.length : Int))))) else (caduceuslaw04_SchemaInherits.j2 kj14 l0 l1 l2 t253 true)) = some r := H
          have A33 := Aside0.mk A330
          clear A330
          by_cases c34 : t270 = true
          ·subst c34
           have H1 : (caduceuslaw04_SchemaInherits.j2 kj14 l0 l1 l2 t253 ((t253.length : Int) != (wrap64 ((l0.length : Int) + (l1.length : Int))))) = some r := by rw [if_pos rfl] at H; exact H
           clear H
           have H := H1
           clear H1
           have H' := Aside0.mk H
           clear H
           obtain ⟨Ao35, co35, eo35⟩ := Kd.R_slice HO_7.out
           subst eo35
           go_wp2_with (first | ((with_reducible refine gate_callee (f := 10) rfl ?_); refine goesA (some 60) Tryd.func10 #[.slice A0 l0.length c0, .slice Ao35 t253.length co35] ?_; (with_reducible refine (schema_Within.calls _ _ l0 _ _ t253 true _ ?side1 ?side2 ?side3 ?side4 ?side5 A31.out).mono ?_); (case side1 => repeat (first | exact (Kd.C_below HR0.out HB.out) | (with_reducible refine Kd.C_alloc ?_ _) | (with_reducible refine Kd.C_drewN ?_ _) | (with_reducible refine Kd.C_drew ?_))); (case side2 => exact HC0.out); (case side3 => repeat (first | exact (Kd.R_reads' HO_7.out).2.2 | (with_reducible refine Kd.C_alloc ?_ _) | (with_reducible refine Kd.C_drewN ?_ _) | (with_reducible refine Kd.C_drew ?_))); (case side4 => exact (Kd.R_reads' HO_7.out).2.1); (case side5 => exact Tabs.below HT.out (bwA)); rintro e w36 ⟨rfl, hb⟩; refine ⟨_, rfl, ?_⟩; have n0_ := Aside0.mk (Kd.R_below (by (with_reducible repeat (first | apply Kd.R_alloc | apply Kd.R_drewN | apply Kd.R_drew)); exact HO_7.out) hb); have n1_ := Aside0.mk (below_step (bwA) hb); clear HO_7; clear HB; have HO_7 := n0_; have HB := n1_; clear n0_ n1_; (try clear hb); (try clear hb2); (try clear hk); (try clear hi)) | (go_at_call 10; (with_reducible refine (schema_Within.calls _ _ l1 _ _ t253 true _ ?side1 ?side2 ?side3 ?side4 ?side5 A33.out).mono ?_); (case side1 => repeat (first | exact (Kd.C_below HR1.out HB.out) | (with_reducible refine Kd.C_alloc ?_ _) | (with_reducible refine Kd.C_drewN ?_ _) | (with_reducible refine Kd.C_drew ?_))); (case side2 => exact HC1.out); (case side3 => repeat (first | exact (Kd.R_reads' HO_7.out).2.2 | (with_reducible refine Kd.C_alloc ?_ _) | (with_reducible refine Kd.C_drewN ?_ _) | (with_reducible refine Kd.C_drew ?_))); (case side4 => exact (Kd.R_reads' HO_7.out).2.1); (case side5 => exact Tabs.below HT.out (bwA)); rintro e w37 ⟨rfl, hb⟩; have n0_ := Aside0.mk (Kd.R_below (by (with_reducible repeat (first | apply Kd.R_alloc | apply Kd.R_drewN | apply Kd.R_drew)); exact HO_7.out) hb); have n1_ := Aside0.mk (below_step (bwA) hb); clear HO_7; clear HB; have HO_7 := n0_; have HB := n1_; clear n0_ n1_; (try clear hb); (try clear hb2); (try clear hk); (try clear hi)))
           go_meet
           case rel => exact ⟨_, (((t253.length : Int) != (wrap64 ((l0.length : Int) + (l1.length : Int))))), (endS), H', ⟨by have := HJ3.out; have := HJ14.out; first | omega | exact Nat.le_refl _⟩, ⟨by (with_reducible repeat (first | apply Kd.R_alloc | apply Kd.R_drewN | apply Kd.R_drew)); exact HO_7.out⟩, ⟨bwA⟩⟩
          ·replace c34 := Bool.eq_false_iff.mpr c34
           subst c34
           have H1 : (caduceuslaw04_SchemaInherits.j2 kj14 l0 l1 l2 t253 true) = some r := by rw [if_neg (show ¬ (false = true) by decide)] at H; exact H
           clear H
           have H := H1
           clear H1
           have H' := Aside0.mk H
           clear H
           obtain ⟨Ao38, co38, eo38⟩ := Kd.R_slice HO_7.out
           subst eo38
           go_wp2_with (first | ((with_reducible refine gate_callee (f := 10) rfl ?_); refine goesA (some 60) Tryd.func10 #[.slice A0 l0.length c0, .slice Ao38 t253.length co38] ?_; (with_reducible refine (schema_Within.calls _ _ l0 _ _ t253 true _ ?side1 ?side2 ?side3 ?side4 ?side5 A31.out).mono ?_); (case side1 => repeat (first | exact (Kd.C_below HR0.out HB.out) | (with_reducible refine Kd.C_alloc ?_ _) | (with_reducible refine Kd.C_drewN ?_ _) | (with_reducible refine Kd.C_drew ?_))); (case side2 => exact HC0.out); (case side3 => repeat (first | exact (Kd.R_reads' HO_7.out).2.2 | (with_reducible refine Kd.C_alloc ?_ _) | (with_reducible refine Kd.C_drewN ?_ _) | (with_reducible refine Kd.C_drew ?_))); (case side4 => exact (Kd.R_reads' HO_7.out).2.1); (case side5 => exact Tabs.below HT.out (bwA)); rintro e w39 ⟨rfl, hb⟩; refine ⟨_, rfl, ?_⟩; have n0_ := Aside0.mk (Kd.R_below (by (with_reducible repeat (first | apply Kd.R_alloc | apply Kd.R_drewN | apply Kd.R_drew)); exact HO_7.out) hb); have n1_ := Aside0.mk (below_step (bwA) hb); clear HO_7; clear HB; have HO_7 := n0_; have HB := n1_; clear n0_ n1_; (try clear hb); (try clear hb2); (try clear hk); (try clear hi)) | (go_at_call 10; (with_reducible refine (schema_Within.calls _ _ l1 _ _ t253 false _ ?side1 ?side2 ?side3 ?side4 ?side5 A33.out).mono ?_); (case side1 => repeat (first | exact (Kd.C_below HR1.out HB.out) | (with_reducible refine Kd.C_alloc ?_ _) | (with_reducible refine Kd.C_drewN ?_ _) | (with_reducible refine Kd.C_drew ?_))); (case side2 => exact HC1.out); (case side3 => repeat (first | exact (Kd.R_reads' HO_7.out).2.2 | (with_reducible refine Kd.C_alloc ?_ _) | (with_reducible refine Kd.C_drewN ?_ _) | (with_reducible refine Kd.C_drew ?_))); (case side4 => exact (Kd.R_reads' HO_7.out).2.1); (case side5 => exact Tabs.below HT.out (bwA)); rintro e w40 ⟨rfl, hb⟩; have n0_ := Aside0.mk (Kd.R_below (by (with_reducible repeat (first | apply Kd.R_alloc | apply Kd.R_drewN | apply Kd.R_drew)); exact HO_7.out) hb); have n1_ := Aside0.mk (below_step (bwA) hb); clear HO_7; clear HB; have HO_7 := n0_; have HB := n1_; clear n0_ n1_; (try clear hb); (try clear hb2); (try clear hk); (try clear hi)))
           go_meet
           case rel => exact ⟨_, (true), (endS), H', ⟨by have := HJ3.out; have := HJ14.out; first | omega | exact Nat.le_refl _⟩, ⟨by (with_reducible repeat (first | apply Kd.R_alloc | apply Kd.R_drewN | apply Kd.R_drew)); exact HO_7.out⟩, ⟨bwA⟩⟩
         ·replace c32 := Bool.eq_false_iff.mpr c32
          subst c32
          have H1 : (caduceuslaw04_SchemaInherits.j2 kj14 l0 l1 l2 t253 true) = some r := by rw [if_neg (show ¬ (false = true) by decide)] at H; exact H
          clear H
          have H := H1
          clear H1
          have H' := Aside0.mk H
          clear H
          obtain ⟨Ao41, co41, eo41⟩ := Kd.R_slice HO_7.out
          subst eo41
          go_wp2_with (first | ((with_reducible refine gate_callee (f := 10) rfl ?_); refine goesA (some 60) Tryd.func10 #[.slice A0 l0.length c0, .slice Ao41 t253.length co41] ?_; (with_reducible refine (schema_Within.calls _ _ l0 _ _ t253 false _ ?side1 ?side2 ?side3 ?side4 ?side5 A31.out).mono ?_); (case side1 => repeat (first | exact (Kd.C_below HR0.out HB.out) | (with_reducible refine Kd.C_alloc ?_ _) | (with_reducible refine Kd.C_drewN ?_ _) | (with_reducible refine Kd.C_drew ?_))); (case side2 => exact HC0.out); (case side3 => repeat (first | exact (Kd.R_reads' HO_7.out).2.2 | (with_reducible refine Kd.C_alloc ?_ _) | (with_reducible refine Kd.C_drewN ?_ _) | (with_reducible refine Kd.C_drew ?_))); (case side4 => exact (Kd.R_reads' HO_7.out).2.1); (case side5 => exact Tabs.below HT.out (bwA)); rintro e w42 ⟨rfl, hb⟩; refine ⟨_, rfl, ?_⟩; have n0_ := Aside0.mk (Kd.R_below (by (with_reducible repeat (first | apply Kd.R_alloc | apply Kd.R_drewN | apply Kd.R_drew)); exact HO_7.out) hb); have n1_ := Aside0.mk (below_step (bwA) hb); clear HO_7; clear HB; have HO_7 := n0_; have HB := n1_; clear n0_ n1_; (try clear hb); (try clear hb2); (try clear hk); (try clear hi)))
          go_meet
          case rel => exact ⟨_, (true), (endS), H', ⟨by have := HJ3.out; have := HJ14.out; first | omega | exact Nat.le_refl _⟩, ⟨by (with_reducible repeat (first | apply Kd.R_alloc | apply Kd.R_drewN | apply Kd.R_drew)); exact HO_7.out⟩, ⟨bwA⟩⟩
        case rest =>
         clear HC30
         try clear c1
         try clear c2
         try clear p2
         try clear c3
         try clear c4
         try clear c6
         try clear p6
         try clear c7
         try clear c8
         try clear c10
         try clear c18
         try clear c18b0
         try clear c18b1
         try clear c28
         try clear c29
         try clear c29b0
         try clear c29b1
         try clear c32
         try clear c34
         try clear p2
         obtain ⟨kq, x77_29, rfl, HA, HJ29, HO_7, HB⟩ := hcut
         cases kq with
         | zero => exact absurd HA.out (by simp [caduceuslaw04_SchemaInherits.j2])
         | succ kj29 =>
          have H := HA.out
          clear HA
          simp only [caduceuslaw04_SchemaInherits.j2] at H
          by_cases c43 : x77_29 = true
          ·subst c43
           have H1 : (none) = some r := by rw [if_pos rfl] at H; exact H
           clear H
           have H := H1
           clear H1
           exact absurd H (by simp)
          ·replace c43 := Bool.eq_false_iff.mpr c43
           subst c43
           have H1 : (caduceuslaw04_SchemaInherits.l0 kj29 l0 l1 l2 t253 false 0) = some r := by rw [if_neg (show ¬ (false = true) by decide)] at H; exact H
           clear H
           have H := H1
           clear H1
           have H' := Aside0.mk H
           clear H
           go_wp2
           go_loopg [11, 12] kj29 (fun kq v11 v12 w' => ∃ (x11_4 : Bool) (x12_4 : Int), v11 = .bool x11_4 ∧ v12 = .int .i64 x12_4 ∧ Aside0 (caduceuslaw04_SchemaInherits.l0 kq l0 l1 l2 t253 x11_4 x12_4 = some r) ∧ Aside0 (kq ≤ kj29) ∧ Aside0 (Kd.R k35 35 w' w.heap.size (fun _ => True) v255 t253) ∧ Aside0 (Below w.heap.size w w'))
           case atStart => exact ⟨(false), (0), (endS), (endS), H', ⟨Nat.le_refl _⟩, ⟨by (with_reducible repeat (first | apply Kd.R_alloc | apply Kd.R_drewN | apply Kd.R_drew)); exact HO_7.out⟩, ⟨bwA⟩⟩
           case round =>
            clear H'
            try clear c1
            try clear c2
            try clear p2
            try clear c3
            try clear c4
            try clear c6
            try clear p6
            try clear c7
            try clear c8
            try clear c10
            try clear c18
            try clear c18b0
            try clear c18b1
            try clear c28
            try clear c29
            try clear c29b0
            try clear c29b1
            try clear c32
            try clear c34
            try clear c43
            try clear p2
            try clear p6
            obtain ⟨x11_4, x12_4, rfl, rfl, HA, HK4, HO_7, HB⟩ := hrel
            cases gk with
            | zero => exact absurd HA.out (by simp [caduceuslaw04_SchemaInherits.l0])
            | succ k4 =>
             have H := HA.out
             clear HA
             simp only [caduceuslaw04_SchemaInherits.l0] at H
             by_cases c44 : x12_4 < (l1.length : Int)
             ·rw [if_pos c44] at H
              have c44b0 : decide (x12_4 < (l1.length : Int)) = true := decide_eq_true c44
              clear c44
              by_cases c45 : x11_4 = true
              ·subst c45
               have H1 : (caduceuslaw04_SchemaInherits.l0 k4 l0 l1 l2 t253 true (wrap64 (x12_4 + 1))) = some r := by rw [if_pos rfl] at H; exact H
               clear H
               have H := H1
               clear H1
               have H' := Aside0.mk H
               clear H
               go_wp2
               go_roundg k4
               case measure => have := HJ3.out; have := HJ14.out; have := HJ29.out; have := HK4.out; omega
               case rel => exact ⟨(true), (wrap64 (x12_4 + 1)), (endS), (endS), H', ⟨by have := HJ3.out; have := HJ14.out; have := HJ29.out; have := HK4.out; omega⟩, ⟨by (with_reducible repeat (first | apply Kd.R_alloc | apply Kd.R_drewN | apply Kd.R_drew)); exact HO_7.out⟩, ⟨bwA⟩⟩
              ·replace c45 := Bool.eq_false_iff.mpr c45
               subst c45
               have H1 : (if 0 ≤ x12_4 then (caduceuslaw04_SchemaInherits.l0 k4 l0 l1 l2 t253 ((rd_T35 l1 x12_4).f2) (wrap64 (x12_4 + 1))) else (none)) = some r := by rw [if_neg (show ¬ (false = true) by decide)] at H; exact H
               clear H
               have H := H1
               clear H1
               by_cases c46 : 0 ≤ x12_4
               ·rw [if_pos c46] at H
                have c46b0 : decide (0 ≤ x12_4) = true := decide_eq_true c46
                clear c46
                have H' := Aside0.mk H
                clear H
                have p271 : 0 ≤ (x12_4 : Int) := odA
                have q271 : x12_4 < (l1.length : Int) := odA
                obtain ⟨ad271, e271, hx271_0, hx271_1, hx271_2⟩ := at_T35 HR1.out x12_4 p271 q271
                cases e271
                replace hx271_0 := crA hx271_0
                replace hx271_1 := crA hx271_1
                replace hx271_2 := crA hx271_2
                replace p271 := eq_true p271
                replace q271 := eq_true q271
                go_wp2
                go_roundg k4
                case measure => have := HJ3.out; have := HJ14.out; have := HJ29.out; have := HK4.out; omega
                case rel => exact ⟨((rd_T35 l1 x12_4).f2), (wrap64 (x12_4 + 1)), (endS), (endS), H', ⟨by have := HJ3.out; have := HJ14.out; have := HJ29.out; have := HK4.out; omega⟩, ⟨by (with_reducible repeat (first | apply Kd.R_alloc | apply Kd.R_drewN | apply Kd.R_drew)); exact HO_7.out⟩, ⟨bwA⟩⟩
               ·rw [if_neg c46] at H
                exact absurd H (by simp)
             ·rw [if_neg c44] at H
              have c44b0 : decide (x12_4 < (l1.length : Int)) = false := decide_eq_false c44
              clear c44
              replace H := Option.bind_eq_some_iff.mp H
              obtain ⟨t272, A470, H⟩ := H
              replace H : (if t272 = true then (if x11_4 = true then (some true) else ((schema_Fits.f k4 l0 l2).bind fun t273 => (if t273 = 0 then ((schema_Fits.f k4 t253 l2).bind fun t274 => (some (t274 == 0))) else (some true)))) else (none)) = some r := H
              have A47 := Aside0.mk A470
              clear A470
              by_cases c48 : t272 = true
              ·subst c48
               have H1 : (if x11_4 = true then (some true) else ((schema_Fits.f k4 l0 l2).bind fun t273 => (if t273 = 0 then ((schema_Fits.f k4 t253 l2).bind fun t274 => (some (t274 == 0))) else (some true)))) = some r := by rw [if_pos rfl] at H; exact H
               clear H
               have H := H1
               clear H1
               by_cases c49 : x11_4 = true
               ·subst c49
                have H1 : (some true) = some r := by rw [if_pos rfl] at H; exact H
                clear H
                have H := H1
                clear H1
                obtain rfl := Option.some.inj H
                go_wp2_with (first | ((with_reducible refine gate_callee (f := 6) rfl ?_); refine goesA (some 92) Tryd.func6 #[] ?_; (with_reducible refine (caduceuslaw04_awake.calls k4  true _ ?side1 A47.out).mono ?_); (case side1 => exact Tabs.below HT.out (bwA)); rintro e w50 ⟨rfl, hb⟩; refine ⟨_, rfl, ?_⟩; have n0_ := Aside0.mk (Kd.R_below (by (with_reducible repeat (first | apply Kd.R_alloc | apply Kd.R_drewN | apply Kd.R_drew)); exact HO_7.out) hb); have n1_ := Aside0.mk (below_step (bwA) hb); clear HO_7; clear HB; have HO_7 := n0_; have HB := n1_; clear n0_ n1_; (try clear hb); (try clear hb2); (try clear hk); (try clear hi)))
                go_ret
                exact ⟨endA, bwA⟩
               ·replace c49 := Bool.eq_false_iff.mpr c49
                subst c49
                have H1 : ((schema_Fits.f k4 l0 l2).bind fun t273 => (if t273 = 0 then ((schema_Fits.f k4 t253 l2).bind fun t274 => (some (t274 == 0))) else (some true))) = some r := by rw [if_neg (show ¬ (false = true) by decide)] at H; exact H
                clear H
                have H := H1
                clear H1
                replace H := Option.bind_eq_some_iff.mp H
                obtain ⟨t273, A510, H⟩ := H
                replace H : (if t273 = 0 then ((schema_Fits.f k4 t253 l2).bind fun t274 => (some (t274 == 0))) else (some true)) = some r := H
                have A51 := Aside0.mk A510
                clear A510
                by_cases c52 : t273 = 0
                ·rw [if_pos c52] at H
                 have c52b0 : (t273 == 0) = true := beq_iff_eq.mpr c52
                 have c52b1 : (t273 != 0) = false := bne_eq_false_iff_eq.mpr c52
                 clear c52
                 replace H := Option.bind_eq_some_iff.mp H
                 obtain ⟨t274, A530, H⟩ := H
                 replace H : (some (t274 == 0)) = some r := H
                 have A53 := Aside0.mk A530
                 clear A530
                 obtain rfl := Option.some.inj H
                 go_wp2_with (first | ((with_reducible refine gate_callee (f := 6) rfl ?_); refine goesA (some 92) Tryd.func6 #[] ?_; (with_reducible refine (caduceuslaw04_awake.calls k4  true _ ?side1 A47.out).mono ?_); (case side1 => exact Tabs.below HT.out (bwA)); rintro e w54 ⟨rfl, hb⟩; refine ⟨_, rfl, ?_⟩; have n0_ := Aside0.mk (Kd.R_below (by (with_reducible repeat (first | apply Kd.R_alloc | apply Kd.R_drewN | apply Kd.R_drew)); exact HO_7.out) hb); have n1_ := Aside0.mk (below_step (bwA) hb); clear HO_7; clear HB; have HO_7 := n0_; have HB := n1_; clear n0_ n1_; (try clear hb); (try clear hb2); (try clear hk); (try clear hi)) | (go_at_call 11; (with_reducible refine (schema_Fits.calls k4 _ _ l0 _ _ l2 t273 _ ?side1 ?side2 ?side3 ?side4 ?side5 A51.out).mono ?_); (case side1 => repeat (first | exact (Kd.C_below HR0.out HB.out) | (with_reducible refine Kd.C_alloc ?_ _) | (with_reducible refine Kd.C_drewN ?_ _) | (with_reducible refine Kd.C_drew ?_))); (case side2 => exact HC0.out); (case side3 => repeat (first | exact (Kd.C_below HR2.out HB.out) | (with_reducible refine Kd.C_alloc ?_ _) | (with_reducible refine Kd.C_drewN ?_ _) | (with_reducible refine Kd.C_drew ?_))); (case side4 => exact HC2.out); (case side5 => exact Tabs.below HT.out (bwA)); rintro e w55 ⟨rfl, hb⟩; have n0_ := Aside0.mk (Kd.R_below (by (with_reducible repeat (first | apply Kd.R_alloc | apply Kd.R_drewN | apply Kd.R_drew)); exact HO_7.out) hb); have n1_ := Aside0.mk (below_step (bwA) hb); clear HO_7; clear HB; have HO_7 := n0_; have HB := n1_; clear n0_ n1_; (try clear hb); (try clear hb2); (try clear hk); (try clear hi); obtain ⟨Ao56, co56, eo56⟩ := Kd.R_slice HO_7.out; subst eo56) | (go_at_call 11; (with_reducible refine (schema_Fits.calls k4 _ _ t253 _ _ l2 t274 _ ?side1 ?side2 ?side3 ?side4 ?side5 A53.out).mono ?_); (case side1 => repeat (first | exact (Kd.R_reads' HO_7.out).2.2 | (with_reducible refine Kd.C_alloc ?_ _) | (with_reducible refine Kd.C_drewN ?_ _) | (with_reducible refine Kd.C_drew ?_))); (case side2 => exact (Kd.R_reads' HO_7.out).2.1); (case side3 => repeat (first | exact (Kd.C_below HR2.out HB.out) | (with_reducible refine Kd.C_alloc ?_ _) | (with_reducible refine Kd.C_drewN ?_ _) | (with_reducible refine Kd.C_drew ?_))); (case side4 => exact HC2.out); (case side5 => exact Tabs.below HT.out (bwA)); rintro e w57 ⟨rfl, hb⟩; have n0_ := Aside0.mk (Kd.R_below (by (with_reducible repeat (first | apply Kd.R_alloc | apply Kd.R_drewN | apply Kd.R_drew)); exact HO_7.out) hb); have n1_ := Aside0.mk (below_step (bwA) hb); clear HO_7; clear HB; have HO_7 := n0_; have HB := n1_; clear n0_ n1_; (try clear hb); (try clear hb2); (try clear hk); (try clear hi)))
                 go_ret
                 exact ⟨endA, bwA⟩
                ·rw [if_neg c52] at H
                 have c52b0 : (t273 == 0) = false := beq_eq_false_iff_ne.mpr c52
                 have c52b1 : (t273 != 0) = true := bne_iff_ne.mpr c52
                 obtain rfl := Option.some.inj H
                 go_wp2_with (first | ((with_reducible refine gate_callee (f := 6) rfl ?_); refine goesA (some 92) Tryd.func6 #[] ?_; (with_reducible refine (caduceuslaw04_awake.calls k4  true _ ?side1 A47.out).mono ?_); (case side1 => exact Tabs.below HT.out (bwA)); rintro e w58 ⟨rfl, hb⟩; refine ⟨_, rfl, ?_⟩; have n0_ := Aside0.mk (Kd.R_below (by (with_reducible repeat (first | apply Kd.R_alloc | apply Kd.R_drewN | apply Kd.R_drew)); exact HO_7.out) hb); have n1_ := Aside0.mk (below_step (bwA) hb); clear HO_7; clear HB; have HO_7 := n0_; have HB := n1_; clear n0_ n1_; (try clear hb); (try clear hb2); (try clear hk); (try clear hi)) | (go_at_call 11; (with_reducible refine (schema_Fits.calls k4 _ _ l0 _ _ l2 t273 _ ?side1 ?side2 ?side3 ?side4 ?side5 A51.out).mono ?_); (case side1 => repeat (first | exact (Kd.C_below HR0.out HB.out) | (with_reducible refine Kd.C_alloc ?_ _) | (with_reducible refine Kd.C_drewN ?_ _) | (with_reducible refine Kd.C_drew ?_))); (case side2 => exact HC0.out); (case side3 => repeat (first | exact (Kd.C_below HR2.out HB.out) | (with_reducible refine Kd.C_alloc ?_ _) | (with_reducible refine Kd.C_drewN ?_ _) | (with_reducible refine Kd.C_drew ?_))); (case side4 => exact HC2.out); (case side5 => exact Tabs.below HT.out (bwA)); rintro e w59 ⟨rfl, hb⟩; have n0_ := Aside0.mk (Kd.R_below (by (with_reducible repeat (first | apply Kd.R_alloc | apply Kd.R_drewN | apply Kd.R_drew)); exact HO_7.out) hb); have n1_ := Aside0.mk (below_step (bwA) hb); clear HO_7; clear HB; have HO_7 := n0_; have HB := n1_; clear n0_ n1_; (try clear hb); (try clear hb2); (try clear hk); (try clear hi)))
                 go_ret
                 exact ⟨endA, bwA⟩
              ·replace c48 := Bool.eq_false_iff.mpr c48
               subst c48
               have H1 : (none) = some r := by rw [if_neg (show ¬ (false = true) by decide)] at H; exact H
               clear H
               have H := H1
               clear H1
               exact absurd H (by simp)
       ·rw [if_neg c29] at H
        have c29b0 : (t254 == 0) = false := beq_eq_false_iff_ne.mpr c29
        have c29b1 : (t254 != 0) = true := bne_iff_ne.mpr c29
        replace H := Option.bind_eq_some_iff.mp H
        obtain ⟨t268, A600, H⟩ := H
        replace H : (if t268 = true then (some ((t253.length : Int) == 0)) else (none)) = some r := H
        have A60 := Aside0.mk A600
        clear A600
        by_cases c61 : t268 = true
        ·subst c61
         have H1 : (some ((t253.length : Int) == 0)) = some r := by rw [if_pos rfl] at H; exact H
         clear H
         have H := H1
         clear H1
         obtain rfl := Option.some.inj H
         go_wp2_with (first | ((with_reducible refine gate_callee (f := 6) rfl ?_); refine goesA (some 52) Tryd.func6 #[] ?_; (with_reducible refine (caduceuslaw04_awake.calls kj14  true _ ?side1 A60.out).mono ?_); (case side1 => exact Tabs.below HT.out (bwA)); rintro e w62 ⟨rfl, hb⟩; refine ⟨_, rfl, ?_⟩; have n0_ := Aside0.mk (Kd.R_below (by (with_reducible repeat (first | apply Kd.R_alloc | apply Kd.R_drewN | apply Kd.R_drew)); exact HO_7.out) hb); have n1_ := Aside0.mk (below_step (bwA) hb); clear HO_7; clear HB; have HO_7 := n0_; have HB := n1_; clear n0_ n1_; (try clear hb); (try clear hb2); (try clear hk); (try clear hi); obtain ⟨Ao63, co63, eo63⟩ := Kd.R_slice HO_7.out; subst eo63))
         go_ret
         exact ⟨endA, bwA⟩
        ·replace c61 := Bool.eq_false_iff.mpr c61
         subst c61
         have H1 : (none) = some r := by rw [if_neg (show ¬ (false = true) by decide)] at H; exact H
         clear H
         have H := H1
         clear H1
         exact absurd H (by simp)

end Go.Proofs.YtbbfggfiknbdmaaDoor.A
