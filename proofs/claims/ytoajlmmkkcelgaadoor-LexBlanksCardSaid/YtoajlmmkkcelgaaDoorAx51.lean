-- By drv.py, the session's own driver round the kit's print: the machine's side of the laws, function by function. Not trusted: Lean checks it.
import Derived.Test.YtoajlmmkkcelgaaDoorAx0
import Derived.Test.YtoajlmmkkcelgaaDoorAx18
import Derived.Test.YtoajlmmkkcelgaaDoorAx19
import Derived.Test.YtoajlmmkkcelgaaDoorAx28
import Derived.Test.YtoajlmmkkcelgaaDoorAx29
namespace Go.Proofs.YtoajlmmkkcelgaaDoor.A
open Go.RowKit Go.Proofs.YtoajlmmkkcelgaaDoorW.PrintWords Go.Proofs.YtoajlmmkkcelgaaDoorW.PrintLast Go.Proofs.YtoajlmmkkcelgaaDoorW.PrintMore
attribute [local go_sem] max2_int min2_int max_two min_two max_three min_three max_four min_four   -- for this text's walks alone
set_option linter.unusedVariables false
set_option linter.unusedSimpArgs false

/-! ### caduceuslaw07_LexBlanks: function 5 -/
mutual
def caduceuslaw07_LexBlanks.j0 : Nat → ByteArray → ByteArray → List Int → Bool → Option (Bool)
 | 0, _, _, _, _ => none
 | k + 1, x0, x1, x2, x25 => if x25 = true then ((caduceuslaw07_awake.f k).bind fun t700 => (some t700)) else ((lex_Lex.f k x0).bind fun bt701 => ((lex_Lex.f k x1).bind fun bt706 => (if bt701.2.2 = 0 then (if bt706.2.2 = 0 then (caduceuslaw07_LexBlanks.j1 k x0 x1 x2 bt701.1 bt706.1 (decide ((wrap64 ((bt701.1.length : Int) + (bt706.1.length : Int))) > 300))) else (caduceuslaw07_LexBlanks.j1 k x0 x1 x2 bt701.1 bt706.1 true)) else (caduceuslaw07_LexBlanks.j1 k x0 x1 x2 bt701.1 bt706.1 true))))
def caduceuslaw07_LexBlanks.j1 : Nat → ByteArray → ByteArray → List Int → List (S68) → List (S68) → Bool → Option (Bool)
 | 0, _, _, _, _, _, _ => none
 | k + 1, x0, x1, x2, x7, x10, x52 => if x52 = true then ((caduceuslaw07_awake.f k).bind fun t711 => (some t711)) else (if x0.size + 1 ≤ 9223372036854775807 then (caduceuslaw07_LexBlanks.l0 k x1 x2 x7 x10 (x0 ++ (⟨#[32]⟩ : ByteArray)) 0) else (none))
def caduceuslaw07_LexBlanks.j3 : Nat → ByteArray → List (S68) → List (S68) → ByteArray → Option (Bool)
 | 0, _, _, _, _ => none
 | k + 1, x1, x7, x10, x13 => if x13.size + x1.size ≤ 9223372036854775807 then ((lex_Lex.f k (x13 ++ x1)).bind fun bt720 => ((caduceuslaw07_awake.f k).bind fun t725 => (if t725 = true then (if bt720.2.2 = 0 then ((caduceuslaw07_refs.f k bt720.1).bind fun t726 => ((caduceuslaw07_refs.f k x7).bind fun t729 => ((caduceuslaw07_refs.f k x10).bind fun t732 => (if t729.length + t732.length < 2199023255552 then ((caduceusref07_Same.f k t726 (t729 ++ t732) true).bind fun t738 => (some t738)) else (none))))) else (none)) else (none)))) else (none)
def caduceuslaw07_LexBlanks.l0 : Nat → ByteArray → List Int → List (S68) → List (S68) → ByteArray → Int → Option (Bool)
 | 0, _, _, _, _, _, _ => none
 | k + 1, x1, x2, x7, x10, x13, x14 => if x14 < (x2.length : Int) then (if x14 < 20 then ((some (([32, 9, 10, 13] : List Int) : List Int)).bind fun y712 => (if 0 ≤ x14 then (if 0 ≤ (Int.tmod (rd x2 x14) 4) then (if (Int.tmod (rd x2 x14) 4) < (y712.length : Int) then ((some (([rd y712 (Int.tmod (rd x2 x14) 4)] : List Int) : List Int)).bind fun y717 => (if x13.size + (strOfNums y717).size ≤ 9223372036854775807 then (caduceuslaw07_LexBlanks.l0 k x1 x2 x7 x10 (x13 ++ (strOfNums y717)) (wrap64 (x14 + 1))) else (none))) else (none)) else (none)) else (none))) else (caduceuslaw07_LexBlanks.j3 k x1 x7 x10 x13)) else (caduceuslaw07_LexBlanks.j3 k x1 x7 x10 x13)
end
def caduceuslaw07_LexBlanks.f (k : Nat) (a0 : ByteArray) (a1 : ByteArray) (l2 : List Int) : Option (Bool) := if (a0.size : Int) > 1000 then (caduceuslaw07_LexBlanks.j0 k a0 a1 l2 true) else (caduceuslaw07_LexBlanks.j0 k a0 a1 l2 (decide ((a1.size : Int) > 1000)))
theorem caduceuslaw07_LexBlanks.mono_l : ∀ k, (∀ y0 y1 y2 y3, LeO (caduceuslaw07_LexBlanks.j0 k y0 y1 y2 y3) (caduceuslaw07_LexBlanks.j0 (k + 1) y0 y1 y2 y3)) ∧ (∀ y0 y1 y2 y3 y4 y5, LeO (caduceuslaw07_LexBlanks.j1 k y0 y1 y2 y3 y4 y5) (caduceuslaw07_LexBlanks.j1 (k + 1) y0 y1 y2 y3 y4 y5)) ∧ (∀ y0 y1 y2 y3, LeO (caduceuslaw07_LexBlanks.j3 k y0 y1 y2 y3) (caduceuslaw07_LexBlanks.j3 (k + 1) y0 y1 y2 y3)) ∧ (∀ y0 y1 y2 y3 y4 y5, LeO (caduceuslaw07_LexBlanks.l0 k y0 y1 y2 y3 y4 y5) (caduceuslaw07_LexBlanks.l0 (k + 1) y0 y1 y2 y3 y4 y5))
 | 0 => ⟨fun _ _ _ _ r h => by simp [caduceuslaw07_LexBlanks.j0] at h, fun _ _ _ _ _ _ r h => by simp [caduceuslaw07_LexBlanks.j1] at h, fun _ _ _ _ r h => by simp [caduceuslaw07_LexBlanks.j3] at h, fun _ _ _ _ _ _ r h => by simp [caduceuslaw07_LexBlanks.l0] at h⟩
 | k + 1 => by
  obtain ⟨ih0, ih1, ih2, ih3⟩ := caduceuslaw07_LexBlanks.mono_l k
  refine ⟨?_, ?_, ?_, ?_⟩
  all_goals intros
  all_goals first | unfold caduceuslaw07_LexBlanks.j0 | unfold caduceuslaw07_LexBlanks.j1 | unfold caduceuslaw07_LexBlanks.j3 | unfold caduceuslaw07_LexBlanks.l0
  all_goals repeat' first
   | (with_reducible exact ih0 _ _ _ _)
   | (with_reducible exact ih1 _ _ _ _ _ _)
   | (with_reducible exact ih2 _ _ _ _)
   | (with_reducible exact ih3 _ _ _ _ _ _)
   | (with_reducible exact caduceuslaw07_awake.mono _)
   | (with_reducible exact caduceuslaw07_refs.mono _ _)
   | (with_reducible exact caduceusref07_Same.mono _ _ _ _)
   | (with_reducible exact lex_Lex.mono _ _)
   | (with_reducible exact LeO.refl _)
   | (with_reducible exact LeO.none _)
   | (with_reducible refine LeO.ite ?_ ?_)
   | (with_reducible refine LeO.bind ?_ (fun _ => ?_))
   | exact ih0 _ _ _ _
   | exact ih1 _ _ _ _ _ _
   | exact ih2 _ _ _ _
   | exact ih3 _ _ _ _ _ _
   | exact caduceuslaw07_awake.mono _
   | exact caduceuslaw07_refs.mono _ _
   | exact caduceusref07_Same.mono _ _ _ _
   | exact lex_Lex.mono _ _
   | exact LeO.none _
   | refine LeO.ite ?_ ?_
   | refine LeO.bind ?_ (fun _ => ?_)
theorem caduceuslaw07_LexBlanks.mono : ∀ a0 a1 a2 k, LeO (caduceuslaw07_LexBlanks.f k a0 a1 a2) (caduceuslaw07_LexBlanks.f (k + 1) a0 a1 a2) := by
 intro a0 a1 a2 k
 obtain ⟨ih0, ih1, ih2, ih3⟩ := caduceuslaw07_LexBlanks.mono_l k
 unfold caduceuslaw07_LexBlanks.f
 repeat' first
   | (with_reducible exact ih0 _ _ _ _)
   | (with_reducible exact ih1 _ _ _ _ _ _)
   | (with_reducible exact ih2 _ _ _ _)
   | (with_reducible exact ih3 _ _ _ _ _ _)
   | (with_reducible exact caduceuslaw07_awake.mono _)
   | (with_reducible exact caduceuslaw07_refs.mono _ _)
   | (with_reducible exact caduceusref07_Same.mono _ _ _ _)
   | (with_reducible exact lex_Lex.mono _ _)
   | (with_reducible exact LeO.refl _)
   | (with_reducible exact LeO.none _)
   | (with_reducible refine LeO.ite ?_ ?_)
   | (with_reducible refine LeO.bind ?_ (fun _ => ?_))
   | exact ih0 _ _ _ _
   | exact ih1 _ _ _ _ _ _
   | exact ih2 _ _ _ _
   | exact ih3 _ _ _ _ _ _
   | exact caduceuslaw07_awake.mono _
   | exact caduceuslaw07_refs.mono _ _
   | exact caduceusref07_Same.mono _ _ _ _
   | exact lex_Lex.mono _ _
   | exact LeO.none _
   | refine LeO.ite ?_ ?_
   | refine LeO.bind ?_ (fun _ => ?_)
set_option maxHeartbeats 8000000 in
set_option maxRecDepth 100000 in
theorem caduceuslaw07_LexBlanks.calls (k : Nat) (a0 : ByteArray) (a1 : ByteArray) (A2 : Option Addr) (c2 : Nat) (l2 : List Int) (r : Bool) (w : World) (hr2 : Kd.C (Kd.int .u8) w A2 l2.length l2) (hc2 : l2.length ≤ c2) (hT : Tabs w) (h : caduceuslaw07_LexBlanks.f k a0 a1 l2 = some r) :
  Calls Tryd.prog 5 #[.string a0, .string a1, .slice A2 l2.length c2] w fun e w' => e = .returned (.bool r) ∧ Below w.heap.size w w' := by
 have HR2 := Aside0.mk hr2
 have HC2 := Aside0.mk hc2
 clear hr2 hc2
 have HB := Aside0.mk (Below.refl w.heap.size w)
 have H : (if (a0.size : Int) > 1000 then (caduceuslaw07_LexBlanks.j0 k a0 a1 l2 true) else (caduceuslaw07_LexBlanks.j0 k a0 a1 l2 (decide ((a1.size : Int) > 1000)))) = some r := h
 clear h
 have HT := Aside0.mk hT
 clear hT
 have HC4 := Aside0.mk H
 clear H
 go_enter Tryd.func5, Tryd.ntmps5
 go_upto_region 1 with (fail)
 go_cut [25] (fun v25 wc => ∃ (kq : Nat) (x25_3 : Bool), v25 = .bool x25_3 ∧ Aside0 (caduceuslaw07_LexBlanks.j0 kq a0 a1 l2 x25_3 = some r) ∧ Aside0 (kq ≤ k) ∧ Aside0 (Below w.heap.size w wc))
 case first =>
  have H := HC4.out
  clear HC4
  by_cases c5 : (a0.size : Int) > 1000
  ·rw [if_pos c5] at H
   have c5b0 : decide (1000 < (a0.size : Int)) = true := decide_eq_true c5
   have c5b1 : decide (1000 < a0.size) = true := decide_eq_true (by omega)
   clear c5
   (first | rw [c5b0] | (simp only [i64_w, i32_w]; rw [c5b0]) | skip)
   have H' := Aside0.mk H
   clear H
   go_wp2
   go_meet
   case rel => exact ⟨_, (true), (by first | rfl | (simp; done) | (simp [*]; done)), H', ⟨by first | omega | exact Nat.le_refl _⟩, ⟨by repeat (first | (with_reducible first | exact HB.out | apply below_alloc | apply pw_below_drewN | apply below_drew1) | exact HB.out)⟩⟩
  ·rw [if_neg c5] at H
   have c5b0 : decide (1000 < (a0.size : Int)) = false := decide_eq_false c5
   have c5b1 : decide (1000 < a0.size) = false := decide_eq_false (by omega)
   clear c5
   (first | rw [c5b0] | (simp only [i64_w, i32_w]; rw [c5b0]) | skip)
   have H' := Aside0.mk H
   clear H
   go_wp2
   go_meet
   case rel => exact ⟨_, (decide ((a1.size : Int) > 1000)), (by first | rfl | (simp; done) | (simp [*]; done)), H', ⟨by first | omega | exact Nat.le_refl _⟩, ⟨by repeat (first | (with_reducible first | exact HB.out | apply below_alloc | apply pw_below_drewN | apply below_drew1) | exact HB.out)⟩⟩
 case rest =>
  clear HC4
  try clear c2
  try clear p2
  try clear c5
  try clear c5b0
  try clear c5b1
  obtain ⟨kq, x25_3, rfl, HA, HJ3, HB⟩ := hcut
  cases kq with
  | zero => exact absurd HA.out (by simp [caduceuslaw07_LexBlanks.j0])
  | succ kj3 =>
   have H := HA.out
   clear HA
   simp only [caduceuslaw07_LexBlanks.j0] at H
   by_cases c6 : x25_3 = true
   ·subst c6
    have H1 : ((caduceuslaw07_awake.f kj3).bind fun t700 => (some t700)) = some r := by rw [if_pos rfl] at H; exact H
    clear H
    have H := H1
    clear H1
    replace H := Option.bind_eq_some_iff.mp H
    obtain ⟨t700, A70, H⟩ := H
    replace H : (some t700) = some r := H
    have A7 := Aside0.mk A70
    clear A70
    obtain rfl := Option.some.inj H
    go_wp2_with (first | ((with_reducible refine gate_callee (f := 24) rfl ?_); refine goesA (some 26) Tryd.func24 #[] ?_; (with_reducible refine (caduceuslaw07_awake.calls kj3  t700 _ ?side1 A7.out).mono ?_); (case side1 => exact Tabs.below HT.out bwA); rintro e w8 ⟨rfl, hb⟩; refine ⟨_, rfl, ?_⟩; have n0_ := Aside0.mk (below_step bwA hb); clear HB; have HB := n0_; clear n0_; (try clear hb); (try clear hb2); (try clear hk); (try clear hi)))
    go_ret
    exact ⟨by first | rfl | (simp [errW_none, errW_some] <;> rfl) | (simp [*, errW_none, errW_some] <;> rfl), by repeat (first | (with_reducible first | exact HB.out | apply below_alloc | apply pw_below_drewN | apply below_drew1) | exact HB.out)⟩
   ·replace c6 := Bool.eq_false_iff.mpr c6
    subst c6
    have H1 : ((lex_Lex.f kj3 a0).bind fun bt701 => ((lex_Lex.f kj3 a1).bind fun bt706 => (if bt701.2.2 = 0 then (if bt706.2.2 = 0 then (caduceuslaw07_LexBlanks.j1 kj3 a0 a1 l2 bt701.1 bt706.1 (decide ((wrap64 ((bt701.1.length : Int) + (bt706.1.length : Int))) > 300))) else (caduceuslaw07_LexBlanks.j1 kj3 a0 a1 l2 bt701.1 bt706.1 true)) else (caduceuslaw07_LexBlanks.j1 kj3 a0 a1 l2 bt701.1 bt706.1 true)))) = some r := by rw [if_neg (show ¬ (false = true) by decide)] at H; exact H
    clear H
    have H := H1
    clear H1
    replace H := Option.bind_eq_some_iff.mp H
    obtain ⟨⟨t701, t702, t703⟩, A90, H⟩ := H
    replace H : ((lex_Lex.f kj3 a1).bind fun bt706 => (if t703 = 0 then (if bt706.2.2 = 0 then (caduceuslaw07_LexBlanks.j1 kj3 a0 a1 l2 t701 bt706.1 (decide ((wrap64 ((t701.length : Int) + (bt706.1.length : Int))) > 300))) else (caduceuslaw07_LexBlanks.j1 kj3 a0 a1 l2 t701 bt706.1 true)) else (caduceuslaw07_LexBlanks.j1 kj3 a0 a1 l2 t701 bt706.1 true))) = some r := H
    have A9 := Aside0.mk A90
    clear A90
    replace H := Option.bind_eq_some_iff.mp H
    obtain ⟨⟨t706, t707, t708⟩, A100, H⟩ := H
    replace H : (if t703 = 0 then (if t708 = 0 then (caduceuslaw07_LexBlanks.j1 kj3 a0 a1 l2 t701 t706 (decide ((wrap64 ((t701.length : Int) + (t706.length : Int))) > 300))) else (caduceuslaw07_LexBlanks.j1 kj3 a0 a1 l2 t701 t706 true)) else (caduceuslaw07_LexBlanks.j1 kj3 a0 a1 l2 t701 t706 true)) = some r := H
    have A10 := Aside0.mk A100
    clear A100
    have HC11 := Aside0.mk H
    clear H
    go_upto_region 5 with (first | ((with_reducible refine gate_callee (f := 25) rfl ?_); refine goesA (some 29) Tryd.func25 #[.string a0] ?_; (with_reducible refine (lex_Lex.calls kj3 a0 t701 t702 t703 _ ?side1 A9.out).mono ?_); (case side1 => exact Tabs.below HT.out bwA); rintro e w12 ⟨v704, rfl, ho0, hb⟩; refine ⟨_, rfl, ?_⟩; have n0_ := Aside0.mk (Kd.R_lower ho0 (below_size bwA)); have n1_ := Aside0.mk (below_step bwA hb); clear HB; have HO705 := n0_; have HB := n1_; clear n0_ n1_; (try clear hb); (try clear hb2); (try clear hk); (try clear hi); (try clear ho0)) | ((with_reducible refine gate_callee (f := 25) rfl ?_); refine goesA (some 35) Tryd.func25 #[.string a1] ?_; (with_reducible refine (lex_Lex.calls kj3 a1 t706 t707 t708 _ ?side1 A10.out).mono ?_); (case side1 => exact Tabs.below HT.out bwA); rintro e w13 ⟨v709, rfl, ho0, hb⟩; refine ⟨_, rfl, ?_⟩; have n0_ := Aside0.mk (Kd.R_elder' (by (with_reducible repeat (first | apply Kd.R_alloc | apply Kd.R_drewN | apply Kd.R_drew)); exact HO705.out) (Kd.R_base ho0) hb); have n1_ := Aside0.mk (Kd.R_lower (Kd.R_new' ho0 (Kd.R_lt (by (with_reducible repeat (first | apply Kd.R_alloc | apply Kd.R_drewN | apply Kd.R_drew)); exact HO705.out))) (below_size bwA)); have n2_ := Aside0.mk (below_step bwA hb); clear HO705; clear HB; have HO705 := n0_; have HO710 := n1_; have HB := n2_; clear n0_ n1_ n2_; (try clear hb); (try clear hb2); (try clear hk); (try clear hi); (try clear ho0)))
    (try simp only [Act.put, List.setIfInBounds_toArray, List.set_cons_zero, List.set_cons_succ])
    go_cut [52] (fun v52 wc => ∃ (kq : Nat) (x52_10 : Bool), v52 = .bool x52_10 ∧ Aside0 (caduceuslaw07_LexBlanks.j1 kq a0 a1 l2 t701 t706 x52_10 = some r) ∧ Aside0 (kq ≤ kj3) ∧ Aside0 (Kd.R k68 68 wc w.heap.size (fun k_ => some k_ ≠ (v709 : Value).ownBlock) v704 t701) ∧ Aside0 (Kd.R k68 68 wc w.heap.size (fun k_ => some k_ ≠ (v704 : Value).ownBlock) v709 t706) ∧ Aside0 (Below w.heap.size w wc))
    case first =>
     have H := HC11.out
     clear HC11
     by_cases c14 : t703 = 0
     ·rw [if_pos c14] at H
      have c14b0 : (t703 == 0) = true := beq_iff_eq.mpr c14
      have c14b1 : (t703 != 0) = false := bne_eq_false_iff_eq.mpr c14
      clear c14
      (first | rw [c14b0] | (simp only [i64_w, i32_w]; rw [c14b0]) | skip)
      by_cases c15 : t708 = 0
      ·rw [if_pos c15] at H
       have c15b0 : (t708 == 0) = true := beq_iff_eq.mpr c15
       have c15b1 : (t708 != 0) = false := bne_eq_false_iff_eq.mpr c15
       clear c15
       have H' := Aside0.mk H
       clear H
       obtain ⟨Ao16, co16, eo16⟩ := Kd.R_slice HO705.out
       subst eo16
       obtain ⟨Ao17, co17, eo17⟩ := Kd.R_slice HO710.out
       subst eo17
       go_wp2
       go_meet
       case rel => exact ⟨_, (decide ((wrap64 ((t701.length : Int) + (t706.length : Int))) > 300)), (by first | rfl | (simp; done) | (simp [*]; done)), H', ⟨by have := HJ3.out; first | omega | exact Nat.le_refl _⟩, ⟨by (with_reducible repeat (first | apply Kd.R_alloc | apply Kd.R_drewN | apply Kd.R_drew)); exact Kd.R_mono HO705.out (fun _ hk => hk.2)⟩, ⟨by (with_reducible repeat (first | apply Kd.R_alloc | apply Kd.R_drewN | apply Kd.R_drew)); exact Kd.R_mono HO710.out (fun _ hk => hk.2)⟩, ⟨by repeat (first | (with_reducible first | exact HB.out | apply below_alloc | apply pw_below_drewN | apply below_drew1) | exact HB.out)⟩⟩
      ·rw [if_neg c15] at H
       have c15b0 : (t708 == 0) = false := beq_eq_false_iff_ne.mpr c15
       have c15b1 : (t708 != 0) = true := bne_iff_ne.mpr c15
       have H' := Aside0.mk H
       clear H
       go_wp2
       go_meet
       case rel => exact ⟨_, (true), (by first | rfl | (simp; done) | (simp [*]; done)), H', ⟨by have := HJ3.out; first | omega | exact Nat.le_refl _⟩, ⟨by (with_reducible repeat (first | apply Kd.R_alloc | apply Kd.R_drewN | apply Kd.R_drew)); exact Kd.R_mono HO705.out (fun _ hk => hk.2)⟩, ⟨by (with_reducible repeat (first | apply Kd.R_alloc | apply Kd.R_drewN | apply Kd.R_drew)); exact Kd.R_mono HO710.out (fun _ hk => hk.2)⟩, ⟨by repeat (first | (with_reducible first | exact HB.out | apply below_alloc | apply pw_below_drewN | apply below_drew1) | exact HB.out)⟩⟩
     ·rw [if_neg c14] at H
      have c14b0 : (t703 == 0) = false := beq_eq_false_iff_ne.mpr c14
      have c14b1 : (t703 != 0) = true := bne_iff_ne.mpr c14
      (first | rw [c14b0] | (simp only [i64_w, i32_w]; rw [c14b0]) | skip)
      have H' := Aside0.mk H
      clear H
      go_wp2
      go_meet
      case rel => exact ⟨_, (true), (by first | rfl | (simp; done) | (simp [*]; done)), H', ⟨by have := HJ3.out; first | omega | exact Nat.le_refl _⟩, ⟨by (with_reducible repeat (first | apply Kd.R_alloc | apply Kd.R_drewN | apply Kd.R_drew)); exact Kd.R_mono HO705.out (fun _ hk => hk.2)⟩, ⟨by (with_reducible repeat (first | apply Kd.R_alloc | apply Kd.R_drewN | apply Kd.R_drew)); exact Kd.R_mono HO710.out (fun _ hk => hk.2)⟩, ⟨by repeat (first | (with_reducible first | exact HB.out | apply below_alloc | apply pw_below_drewN | apply below_drew1) | exact HB.out)⟩⟩
    case rest =>
     clear HC11
     try clear c1
     try clear c2
     try clear p2
     try clear c5
     try clear c5b0
     try clear c5b1
     try clear c6
     try clear p6
     try clear c14
     try clear c14b0
     try clear c14b1
     try clear c15
     try clear c15b0
     try clear c15b1
     try clear p2
     obtain ⟨kq, x52_10, rfl, HA, HJ10, HO_7, HO_10, HB⟩ := hcut
     cases kq with
     | zero => exact absurd HA.out (by simp [caduceuslaw07_LexBlanks.j1])
     | succ kj10 =>
      have H := HA.out
      clear HA
      simp only [caduceuslaw07_LexBlanks.j1] at H
      by_cases c18 : x52_10 = true
      ·subst c18
       have H1 : ((caduceuslaw07_awake.f kj10).bind fun t711 => (some t711)) = some r := by rw [if_pos rfl] at H; exact H
       clear H
       have H := H1
       clear H1
       replace H := Option.bind_eq_some_iff.mp H
       obtain ⟨t711, A190, H⟩ := H
       replace H : (some t711) = some r := H
       have A19 := Aside0.mk A190
       clear A190
       obtain rfl := Option.some.inj H
       go_wp2_with (first | ((with_reducible refine gate_callee (f := 24) rfl ?_); refine goesA (some 53) Tryd.func24 #[] ?_; (with_reducible refine (caduceuslaw07_awake.calls kj10  t711 _ ?side1 A19.out).mono ?_); (case side1 => exact Tabs.below HT.out bwA); rintro e w20 ⟨rfl, hb⟩; refine ⟨_, rfl, ?_⟩; have n0_ := Aside0.mk (Kd.R_below (by (with_reducible repeat (first | apply Kd.R_alloc | apply Kd.R_drewN | apply Kd.R_drew)); exact HO_7.out) hb); have n1_ := Aside0.mk (Kd.R_below (by (with_reducible repeat (first | apply Kd.R_alloc | apply Kd.R_drewN | apply Kd.R_drew)); exact HO_10.out) hb); have n2_ := Aside0.mk (below_step bwA hb); clear HO_7; clear HO_10; clear HB; have HO_7 := n0_; have HO_10 := n1_; have HB := n2_; clear n0_ n1_ n2_; (try clear hb); (try clear hb2); (try clear hk); (try clear hi)))
       go_ret
       exact ⟨by first | rfl | (simp [errW_none, errW_some] <;> rfl) | (simp [*, errW_none, errW_some] <;> rfl), by repeat (first | (with_reducible first | exact HB.out | apply below_alloc | apply pw_below_drewN | apply below_drew1) | exact HB.out)⟩
      ·replace c18 := Bool.eq_false_iff.mpr c18
       subst c18
       have H1 : (if a0.size + 1 ≤ 9223372036854775807 then (caduceuslaw07_LexBlanks.l0 kj10 a1 l2 t701 t706 (a0 ++ (⟨#[32]⟩ : ByteArray)) 0) else (none)) = some r := by rw [if_neg (show ¬ (false = true) by decide)] at H; exact H
       clear H
       have H := H1
       clear H1
       by_cases c21 : a0.size + 1 ≤ 9223372036854775807
       ·rw [if_pos c21] at H
        have c21b0 := eq_true c21
        have c21b1 : decide (a0.size + 1 ≤ 9223372036854775807) = true := decide_eq_true c21
        try have c21b2 : (9223372036854775807 < a0.size + 1) = False := eq_false (Nat.not_lt.2 c21)
        have HC22 := Aside0.mk H
        clear H
        go_upto_block 0 with (fail)
        go_cut [13] (fun v13 wc => ∃ (kq : Nat) (x13_21 : ByteArray), v13 = .string x13_21 ∧ Aside0 (caduceuslaw07_LexBlanks.j3 kq a1 t701 t706 x13_21 = some r) ∧ Aside0 (kq ≤ kj10) ∧ Aside0 (Kd.R k68 68 wc w.heap.size (fun k_ => some k_ ≠ (v709 : Value).ownBlock) v704 t701) ∧ Aside0 (Kd.R k68 68 wc w.heap.size (fun k_ => some k_ ≠ (v704 : Value).ownBlock) v709 t706) ∧ Aside0 (Below w.heap.size w wc))
        case first =>
         have H := HC22.out
         clear HC22
         have H' := Aside0.mk H
         clear H
         go_wp2
         go_loopg [13, 14] kj10 (fun kq v13 v14 w' => ∃ (x13_3 : ByteArray) (x14_3 : Int), v13 = .string x13_3 ∧ v14 = .int .i64 x14_3 ∧ Aside0 (caduceuslaw07_LexBlanks.l0 kq a1 l2 t701 t706 x13_3 x14_3 = some r) ∧ Aside0 (kq ≤ kj10) ∧ Aside0 (Kd.R k68 68 w' w.heap.size (fun k_ => some k_ ≠ (v709 : Value).ownBlock) v704 t701) ∧ Aside0 (Kd.R k68 68 w' w.heap.size (fun k_ => some k_ ≠ (v704 : Value).ownBlock) v709 t706) ∧ Aside0 (Below w.heap.size w w'))
         case atStart => exact ⟨(a0 ++ (⟨#[32]⟩ : ByteArray)), (0), (by first | rfl | (simp; done) | (simp [*]; done)), (by first | rfl | (simp; done) | (simp [*]; done)), H', ⟨Nat.le_refl _⟩, ⟨by (with_reducible repeat (first | apply Kd.R_alloc | apply Kd.R_drewN | apply Kd.R_drew)); exact HO_7.out⟩, ⟨by (with_reducible repeat (first | apply Kd.R_alloc | apply Kd.R_drewN | apply Kd.R_drew)); exact HO_10.out⟩, ⟨by repeat (first | (with_reducible first | exact HB.out | apply below_alloc | apply pw_below_drewN | apply below_drew1) | exact HB.out)⟩⟩
         case round =>
          clear H'
          try clear c1
          try clear c2
          try clear p2
          try clear c5
          try clear c5b0
          try clear c5b1
          try clear c6
          try clear p6
          try clear c14
          try clear c14b0
          try clear c14b1
          try clear c15
          try clear c15b0
          try clear c15b1
          try clear c18
          try clear c21
          try clear c21b0
          try clear c21b1
          try clear c21b2
          try clear p2
          try clear p6
          obtain ⟨x13_3, x14_3, rfl, rfl, HA, HK3, HO_7, HO_10, HB⟩ := hrel
          cases gk with
          | zero => exact absurd HA.out (by simp [caduceuslaw07_LexBlanks.l0])
          | succ k3 =>
           have H := HA.out
           clear HA
           simp only [caduceuslaw07_LexBlanks.l0] at H
           by_cases c23 : x14_3 < (l2.length : Int)
           ·rw [if_pos c23] at H
            have c23b0 : decide (x14_3 < (l2.length : Int)) = true := decide_eq_true c23
            clear c23
            (first | rw [c23b0] | (simp only [i64_w, i32_w]; rw [c23b0]) | skip)
            by_cases c24 : x14_3 < 20
            ·rw [if_pos c24] at H
             have c24b0 : decide (x14_3 < 20) = true := decide_eq_true c24
             clear c24
             obtain ⟨y712, hy712⟩ : ∃ y_ : List Int, y_ = (([32, 9, 10, 13] : List Int)) := ⟨_, rfl⟩
             replace H : (if 0 ≤ x14_3 then (if 0 ≤ (Int.tmod (rd l2 x14_3) 4) then (if (Int.tmod (rd l2 x14_3) 4) < (y712.length : Int) then ((some (([rd y712 (Int.tmod (rd l2 x14_3) 4)] : List Int) : List Int)).bind fun y717 => (if x13_3.size + (strOfNums y717).size ≤ 9223372036854775807 then (caduceuslaw07_LexBlanks.l0 k3 a1 l2 t701 t706 (x13_3 ++ (strOfNums y717)) (wrap64 (x14_3 + 1))) else (none))) else (none)) else (none)) else (none)) = some r := by first | (rw [hy712]; with_reducible exact H) | (have H2_ := (Option.bind_some _ _).symm.trans H; rw [hy712]; with_reducible exact H2_) | (have H2_ := (Option.bind_some _ _).symm.trans H; with_reducible exact H2_) | with_reducible exact H | (rw [hy712]; exact H) | exact H
             have Ny712 := Aside0.mk hy712
             clear hy712
             by_cases c25 : 0 ≤ x14_3
             ·rw [if_pos c25] at H
              have c25b0 : decide (0 ≤ x14_3) = true := decide_eq_true c25
              clear c25
              obtain ⟨ji26, hji26⟩ : ∃ j_ : Int, (Int.tmod (rd l2 x14_3) 4) = j_ := ⟨_, rfl⟩
              replace H : (if 0 ≤ (ji26) then (if (ji26) < (y712.length : Int) then ((some (([rd y712 (ji26)] : List Int) : List Int)).bind fun y717 => (if x13_3.size + (strOfNums y717).size ≤ 9223372036854775807 then (caduceuslaw07_LexBlanks.l0 k3 a1 l2 t701 t706 (x13_3 ++ (strOfNums y717)) (wrap64 (x14_3 + 1))) else (none))) else (none)) else (none)) = some r := by first | (rw [hji26] at H; exact H) | (simp only [hji26] at H ⊢; exact H)
              by_cases c27 : 0 ≤ (ji26)
              ·rw [if_pos c27] at H
               have c27b0 : decide (0 ≤ (ji26)) = true := decide_eq_true c27
               clear c27
               by_cases c28 : (ji26) < (y712.length : Int)
               ·rw [if_pos c28] at H
                have c28b0 : decide ((ji26) < (y712.length : Int)) = true := decide_eq_true c28
                clear c28
                obtain ⟨y717, hy717⟩ : ∃ y_ : List Int, y_ = (([rd y712 (ji26)] : List Int)) := ⟨_, rfl⟩
                replace H : (if x13_3.size + (strOfNums y717).size ≤ 9223372036854775807 then (caduceuslaw07_LexBlanks.l0 k3 a1 l2 t701 t706 (x13_3 ++ (strOfNums y717)) (wrap64 (x14_3 + 1))) else (none)) = some r := by first | (rw [hy717]; with_reducible exact H) | (have H2_ := (Option.bind_some _ _).symm.trans H; rw [hy717]; with_reducible exact H2_) | (have H2_ := (Option.bind_some _ _).symm.trans H; with_reducible exact H2_) | with_reducible exact H | (rw [hy717]; exact H) | exact H
                have Ny717 := Aside0.mk hy717
                clear hy717
                by_cases c29 : x13_3.size + (strOfNums y717).size ≤ 9223372036854775807
                ·rw [if_pos c29] at H
                 have c29b0 := eq_true c29
                 have c29b1 : decide (x13_3.size + (strOfNums y717).size ≤ 9223372036854775807) = true := decide_eq_true c29
                 try have c29b2 : (9223372036854775807 < x13_3.size + (strOfNums y717).size) = False := eq_false (Nat.not_lt.2 c29)
                 have H' := Aside0.mk H
                 clear H
                 go_wp2_with (first | ((with_reducible refine gate_dst (N := 67) rfl ?_); (try (refine gate_guard (by rfl) ?_; dsimp only)); refine Kd.R_lit (Kd.int .u8) _ 5 ?hg (N := 67) ?hd (xs := ([32, 9, 10, 13] : List Int)) (inner := [.int .u8 32, .int .u8 9, .int .u8 10, .int .u8 13]) (ok := fun _ => True) (okp := fun _ => True) ?hr ?hp (fun _ hk => hk) trivial (Below.refl _ _) (Nat.le_refl _) (by simp) ?_; (case hd => rfl); (case hg => rfl); (case hr => first | (go_simp; done) | (go_simp; rfl)); (case hp => exact (Reps.one (show Kd.M (Kd.int .u8) _ _ _ 32 [.int .u8 32] from rfl) (Reps.one (show Kd.M (Kd.int .u8) _ _ _ 9 [.int .u8 9] from rfl) (Reps.one (show Kd.M (Kd.int .u8) _ _ _ 10 [.int .u8 10] from rfl) (Reps.one (show Kd.M (Kd.int .u8) _ _ _ 13 [.int .u8 13] from rfl) (Reps.none _ _)))))); intro v713 w30 ho31 hb hg_ hnew_; clear hg_ hnew_; (first | rw [← Ny712.out] at ho31 | (simp only [Int.reduceToNat] at ho31; rw [← Ny712.out] at ho31)); have n0_ := Aside0.mk (Kd.R_below (by (with_reducible repeat (first | apply Kd.R_alloc | apply Kd.R_drewN | apply Kd.R_drew)); exact HO_7.out) hb); have n1_ := Aside0.mk (Kd.R_below (by (with_reducible repeat (first | apply Kd.R_alloc | apply Kd.R_drewN | apply Kd.R_drew)); exact HO_10.out) hb); have n2_ := Aside0.mk (Kd.R_lower ho31 (below_size bwA)); have n3_ := Aside0.mk (below_step bwA hb); clear HO_7; clear HO_10; clear HB; have HO_7 := n0_; have HO_10 := n1_; have HO714 := n2_; have HB := n3_; clear n0_ n1_ n2_ n3_; clear hb ho31; have p715 : 0 ≤ (x14_3 : Int) := of_decide_eq_true (by first | (with_reducible assumption) | assumption); have q715 : x14_3 < (l2.length : Int) := of_decide_eq_true (by first | (with_reducible assumption) | assumption); obtain ⟨ad715, e715, hx715_0⟩ := Kd.at_int HR2.out x14_3 p715 q715; cases e715; replace hx715_0 := (HB.out.cell (World.block_lt_of_cell? w _ hx715_0)).trans hx715_0; replace p715 := eq_true p715; replace q715 := eq_true q715; obtain ⟨Ao32, co32, eo32⟩ := Kd.R_slice HO714.out; subst eo32; have p716 : 0 ≤ ((ji26) : Int) := of_decide_eq_true (by first | (with_reducible assumption) | assumption); have q716 : (ji26) < (y712.length : Int) := of_decide_eq_true (by first | (with_reducible assumption) | assumption); obtain ⟨ad716, e716, hx716_0⟩ := Kd.at_int (Kd.R_reads' HO714.out).2.2 (ji26) p716 q716; cases e716; replace p716 := eq_true p716; replace q716 := eq_true q716) | ((with_reducible refine gate_dst (N := 75) rfl ?_); (try (refine gate_guard (by rfl) ?_; dsimp only)); refine Kd.R_lit (Kd.int .u8) _ 5 ?hg (N := 75) ?hd (xs := ([rd y712 (ji26)] : List Int)) (inner := [.int .u8 (rd y712 (ji26))]) (ok := fun _ => True) (okp := fun _ => True) ?hr ?hp (fun _ hk => hk) trivial (Below.refl _ _) (Nat.le_refl _) (by simp) ?_; (case hd => rfl); (case hg => rfl); (case hr => first | (go_simp; done) | (go_simp; rfl)); (case hp => exact (Reps.one (show Kd.M (Kd.int .u8) _ _ _ (rd y712 (ji26)) [.int .u8 (rd y712 (ji26))] from rfl) (Reps.none _ _))); intro v718 w33 ho34 hb hg_ hnew_; clear hg_ hnew_; (first | rw [← Ny717.out] at ho34 | (simp only [Int.reduceToNat] at ho34; rw [← Ny717.out] at ho34)); have n0_ := Aside0.mk (Kd.R_below (by (with_reducible repeat (first | apply Kd.R_alloc | apply Kd.R_drewN | apply Kd.R_drew)); exact HO_7.out) hb); have n1_ := Aside0.mk (Kd.R_below (by (with_reducible repeat (first | apply Kd.R_alloc | apply Kd.R_drewN | apply Kd.R_drew)); exact HO_10.out) hb); have n2_ := Aside0.mk (Kd.R_elder' (by (with_reducible repeat (first | apply Kd.R_alloc | apply Kd.R_drewN | apply Kd.R_drew)); exact HO714.out) (Kd.R_base ho34) hb); have n3_ := Aside0.mk (Kd.R_lower (Kd.R_new' ho34 (Kd.R_lt (by (with_reducible repeat (first | apply Kd.R_alloc | apply Kd.R_drewN | apply Kd.R_drew)); exact HO714.out))) (below_size bwA)); have n4_ := Aside0.mk (below_step bwA hb); clear HO_7; clear HO_10; clear HO714; clear HB; have HO_7 := n0_; have HO_10 := n1_; have HO714 := n2_; have HO719 := n3_; have HB := n4_; clear n0_ n1_ n2_ n3_ n4_; clear hb ho34; have hcv35 := own_string (P := Tryd.prog) Tryd.underlying38 Tryd.underlying5 Tryd.underlying9 (Kd.own_of_R HO719.out)))
                 go_roundg k3
                 case measure => have := HJ3.out; have := HJ10.out; have := HK3.out; omega
                 case rel => exact ⟨(x13_3 ++ (strOfNums y717)), (wrap64 (x14_3 + 1)), (by first | rfl | (simp; done) | (simp [*]; done)), (by first | rfl | (simp; done) | (simp [*]; done)), H', ⟨by have := HJ3.out; have := HJ10.out; have := HK3.out; omega⟩, ⟨by (with_reducible repeat (first | apply Kd.R_alloc | apply Kd.R_drewN | apply Kd.R_drew)); exact HO_7.out⟩, ⟨by (with_reducible repeat (first | apply Kd.R_alloc | apply Kd.R_drewN | apply Kd.R_drew)); exact HO_10.out⟩, ⟨by repeat (first | (with_reducible first | exact HB.out | apply below_alloc | apply pw_below_drewN | apply below_drew1) | exact HB.out)⟩⟩
                ·rw [if_neg c29] at H
                 exact absurd H (by simp)
               ·rw [if_neg c28] at H
                exact absurd H (by simp)
              ·rw [if_neg c27] at H
               exact absurd H (by simp)
             ·rw [if_neg c25] at H
              exact absurd H (by simp)
            ·rw [if_neg c24] at H
             have c24b0 : decide (x14_3 < 20) = false := decide_eq_false c24
             clear c24
             have H' := Aside0.mk H
             clear H
             go_wp2
             go_meet
             case rel => exact ⟨_, (x13_3), (by first | rfl | (simp; done) | (simp [*]; done)), H', ⟨by have := HJ3.out; have := HJ10.out; have := HK3.out; first | omega | exact Nat.le_refl _⟩, ⟨by (with_reducible repeat (first | apply Kd.R_alloc | apply Kd.R_drewN | apply Kd.R_drew)); exact HO_7.out⟩, ⟨by (with_reducible repeat (first | apply Kd.R_alloc | apply Kd.R_drewN | apply Kd.R_drew)); exact HO_10.out⟩, ⟨by repeat (first | (with_reducible first | exact HB.out | apply below_alloc | apply pw_below_drewN | apply below_drew1) | exact HB.out)⟩⟩
           ·rw [if_neg c23] at H
            have c23b0 : decide (x14_3 < (l2.length : Int)) = false := decide_eq_false c23
            clear c23
            (first | rw [c23b0] | (simp only [i64_w, i32_w]; rw [c23b0]) | skip)
            have H' := Aside0.mk H
            clear H
            go_wp2
            go_meet
            case rel => exact ⟨_, (x13_3), (by first | rfl | (simp; done) | (simp [*]; done)), H', ⟨by have := HJ3.out; have := HJ10.out; have := HK3.out; first | omega | exact Nat.le_refl _⟩, ⟨by (with_reducible repeat (first | apply Kd.R_alloc | apply Kd.R_drewN | apply Kd.R_drew)); exact HO_7.out⟩, ⟨by (with_reducible repeat (first | apply Kd.R_alloc | apply Kd.R_drewN | apply Kd.R_drew)); exact HO_10.out⟩, ⟨by repeat (first | (with_reducible first | exact HB.out | apply below_alloc | apply pw_below_drewN | apply below_drew1) | exact HB.out)⟩⟩
        case rest =>
         clear HC22
         try clear c1
         try clear c2
         try clear p2
         try clear hcv3
         try clear c5
         try clear c5b0
         try clear c5b1
         try clear c6
         try clear p6
         try clear p7
         try clear q7
         try clear hx7
         try clear c14
         try clear c14b0
         try clear c14b1
         try clear c15
         try clear c15b0
         try clear c15b1
         try clear c18
         try clear c21
         try clear c21b0
         try clear c21b1
         try clear c21b2
         try clear c23
         try clear c23b0
         try clear c24
         try clear c24b0
         try clear c25
         try clear c25b0
         try clear c27
         try clear c27b0
         try clear c28
         try clear c28b0
         try clear c29
         try clear c29b0
         try clear c29b1
         try clear c29b2
         try clear hcv35
         try clear hx715_0
         try clear hx716_0
         try clear p2
         try clear p6
         try clear p715
         try clear p716
         try clear q715
         try clear q716
         obtain ⟨kq, x13_21, rfl, HA, HJ21, HO_7, HO_10, HB⟩ := hcut
         cases kq with
         | zero => exact absurd HA.out (by simp [caduceuslaw07_LexBlanks.j3])
         | succ kj21 =>
          have H := HA.out
          clear HA
          simp only [caduceuslaw07_LexBlanks.j3] at H
          by_cases c36 : x13_21.size + a1.size ≤ 9223372036854775807
          ·rw [if_pos c36] at H
           have c36b0 := eq_true c36
           have c36b1 : decide (x13_21.size + a1.size ≤ 9223372036854775807) = true := decide_eq_true c36
           try have c36b2 : (9223372036854775807 < x13_21.size + a1.size) = False := eq_false (Nat.not_lt.2 c36)
           replace H := Option.bind_eq_some_iff.mp H
           obtain ⟨⟨t720, t721, t722⟩, A370, H⟩ := H
           replace H : ((caduceuslaw07_awake.f kj21).bind fun t725 => (if t725 = true then (if t722 = 0 then ((caduceuslaw07_refs.f kj21 t720).bind fun t726 => ((caduceuslaw07_refs.f kj21 t701).bind fun t729 => ((caduceuslaw07_refs.f kj21 t706).bind fun t732 => (if t729.length + t732.length < 2199023255552 then ((caduceusref07_Same.f kj21 t726 (t729 ++ t732) true).bind fun t738 => (some t738)) else (none))))) else (none)) else (none))) = some r := H
           have A37 := Aside0.mk A370
           clear A370
           replace H := Option.bind_eq_some_iff.mp H
           obtain ⟨t725, A380, H⟩ := H
           replace H : (if t725 = true then (if t722 = 0 then ((caduceuslaw07_refs.f kj21 t720).bind fun t726 => ((caduceuslaw07_refs.f kj21 t701).bind fun t729 => ((caduceuslaw07_refs.f kj21 t706).bind fun t732 => (if t729.length + t732.length < 2199023255552 then ((caduceusref07_Same.f kj21 t726 (t729 ++ t732) true).bind fun t738 => (some t738)) else (none))))) else (none)) else (none)) = some r := H
           have A38 := Aside0.mk A380
           clear A380
           by_cases c39 : t725 = true
           ·subst c39
            have H1 : (if t722 = 0 then ((caduceuslaw07_refs.f kj21 t720).bind fun t726 => ((caduceuslaw07_refs.f kj21 t701).bind fun t729 => ((caduceuslaw07_refs.f kj21 t706).bind fun t732 => (if t729.length + t732.length < 2199023255552 then ((caduceusref07_Same.f kj21 t726 (t729 ++ t732) true).bind fun t738 => (some t738)) else (none))))) else (none)) = some r := by rw [if_pos rfl] at H; exact H
            clear H
            have H := H1
            clear H1
            by_cases c40 : t722 = 0
            ·rw [if_pos c40] at H
             have c40b0 : (t722 == 0) = true := beq_iff_eq.mpr c40
             have c40b1 : (t722 != 0) = false := bne_eq_false_iff_eq.mpr c40
             clear c40
             replace H := Option.bind_eq_some_iff.mp H
             obtain ⟨t726, A410, H⟩ := H
             replace H : ((caduceuslaw07_refs.f kj21 t701).bind fun t729 => ((caduceuslaw07_refs.f kj21 t706).bind fun t732 => (if t729.length + t732.length < 2199023255552 then ((caduceusref07_Same.f kj21 t726 (t729 ++ t732) true).bind fun t738 => (some t738)) else (none)))) = some r := H
             have A41 := Aside0.mk A410
             clear A410
             replace H := Option.bind_eq_some_iff.mp H
             obtain ⟨t729, A420, H⟩ := H
             replace H : ((caduceuslaw07_refs.f kj21 t706).bind fun t732 => (if t729.length + t732.length < 2199023255552 then ((caduceusref07_Same.f kj21 t726 (t729 ++ t732) true).bind fun t738 => (some t738)) else (none))) = some r := H
             have A42 := Aside0.mk A420
             clear A420
             replace H := Option.bind_eq_some_iff.mp H
             obtain ⟨t732, A430, H⟩ := H
             replace H : (if t729.length + t732.length < 2199023255552 then ((caduceusref07_Same.f kj21 t726 (t729 ++ t732) true).bind fun t738 => (some t738)) else (none)) = some r := H
             have A43 := Aside0.mk A430
             clear A430
             by_cases c44 : t729.length + t732.length < 2199023255552
             ·rw [if_pos c44] at H
              have LMc44 := Aside0.mk c44
              clear c44
              obtain ⟨y735, hy735⟩ : ∃ y_ : List (S81), y_ = (t729 ++ t732) := ⟨_, rfl⟩
              replace H : ((caduceusref07_Same.f kj21 t726 y735 true).bind fun t738 => (some t738)) = some r := by first | (rw [hy735]; with_reducible exact H) | (have H2_ := (Option.bind_some _ _).symm.trans H; rw [hy735]; with_reducible exact H2_) | (have H2_ := (Option.bind_some _ _).symm.trans H; with_reducible exact H2_) | with_reducible exact H | (rw [hy735]; exact H) | exact H
              have Ny735 := Aside0.mk hy735
              clear hy735
              replace H := Option.bind_eq_some_iff.mp H
              obtain ⟨t738, A450, H⟩ := H
              replace H : (some t738) = some r := H
              have A45 := Aside0.mk A450
              clear A450
              obtain rfl := Option.some.inj H
              go_wp2_with (first | ((with_reducible refine gate_callee (f := 25) rfl ?_); refine goesA (some 82) Tryd.func25 #[.string (x13_21 ++ a1)] ?_; (with_reducible refine (lex_Lex.calls kj21 (x13_21 ++ a1) t720 t721 t722 _ ?side1 A37.out).mono ?_); (case side1 => exact Tabs.below HT.out bwA); rintro e w46 ⟨v723, rfl, ho0, hb⟩; refine ⟨_, rfl, ?_⟩; have n0_ := Aside0.mk (Kd.R_elder' (by (with_reducible repeat (first | apply Kd.R_alloc | apply Kd.R_drewN | apply Kd.R_drew)); exact HO_7.out) (Kd.R_base ho0) hb); have n1_ := Aside0.mk (Kd.R_elder' (by (with_reducible repeat (first | apply Kd.R_alloc | apply Kd.R_drewN | apply Kd.R_drew)); exact HO_10.out) (Kd.R_base ho0) hb); have n2_ := Aside0.mk (Kd.R_lower (Kd.R_new' (Kd.R_new' ho0 (Kd.R_lt (by (with_reducible repeat (first | apply Kd.R_alloc | apply Kd.R_drewN | apply Kd.R_drew)); exact HO_7.out))) (Kd.R_lt (by (with_reducible repeat (first | apply Kd.R_alloc | apply Kd.R_drewN | apply Kd.R_drew)); exact HO_10.out))) (below_size bwA)); have n3_ := Aside0.mk (below_step bwA hb); clear HO_7; clear HO_10; clear HB; have HO_7 := n0_; have HO_10 := n1_; have HO724 := n2_; have HB := n3_; clear n0_ n1_ n2_ n3_; (try clear hb); (try clear hb2); (try clear hk); (try clear hi); (try clear ho0)) | ((with_reducible refine gate_callee (f := 24) rfl ?_); refine goesA (some 86) Tryd.func24 #[] ?_; (with_reducible refine (caduceuslaw07_awake.calls kj21  true _ ?side1 A38.out).mono ?_); (case side1 => exact Tabs.below HT.out bwA); rintro e w47 ⟨rfl, hb⟩; refine ⟨_, rfl, ?_⟩; have n0_ := Aside0.mk (Kd.R_below (by (with_reducible repeat (first | apply Kd.R_alloc | apply Kd.R_drewN | apply Kd.R_drew)); exact HO_7.out) hb); have n1_ := Aside0.mk (Kd.R_below (by (with_reducible repeat (first | apply Kd.R_alloc | apply Kd.R_drewN | apply Kd.R_drew)); exact HO_10.out) hb); have n2_ := Aside0.mk (Kd.R_below (by (with_reducible repeat (first | apply Kd.R_alloc | apply Kd.R_drewN | apply Kd.R_drew)); exact HO724.out) hb); have n3_ := Aside0.mk (below_step bwA hb); clear HO_7; clear HO_10; clear HO724; clear HB; have HO_7 := n0_; have HO_10 := n1_; have HO724 := n2_; have HB := n3_; clear n0_ n1_ n2_ n3_; (try clear hb); (try clear hb2); (try clear hk); (try clear hi); obtain ⟨Ao48, co48, eo48⟩ := Kd.R_slice HO724.out; subst eo48) | (go_at_call 27; (with_reducible refine (caduceuslaw07_refs.calls kj21 _ _ t720 t726 _ ?side1 ?side2 A41.out).mono ?_); (case side1 => repeat (first | exact (Kd.R_reads' HO724.out).2.2 | (with_reducible refine Kd.C_alloc ?_ _) | (with_reducible refine Kd.C_drewN ?_ _) | (with_reducible refine Kd.C_drew ?_))); (case side2 => exact (Kd.R_reads' HO724.out).2.1); rintro e w49 ⟨v727, rfl, ho0, hb⟩; have n0_ := Aside0.mk (Kd.R_below (by (with_reducible repeat (first | apply Kd.R_alloc | apply Kd.R_drewN | apply Kd.R_drew)); exact HO_7.out) hb); have n1_ := Aside0.mk (Kd.R_below (by (with_reducible repeat (first | apply Kd.R_alloc | apply Kd.R_drewN | apply Kd.R_drew)); exact HO_10.out) hb); have n2_ := Aside0.mk (Kd.R_below (by (with_reducible repeat (first | apply Kd.R_alloc | apply Kd.R_drewN | apply Kd.R_drew)); exact HO724.out) hb); have n3_ := Aside0.mk (Kd.R_lower ho0 (below_size bwA)); have n4_ := Aside0.mk (below_step bwA hb); clear HO_7; clear HO_10; clear HO724; clear HB; have HO_7 := n0_; have HO_10 := n1_; have HO724 := n2_; have HO728 := n3_; have HB := n4_; clear n0_ n1_ n2_ n3_ n4_; (try clear hb); (try clear hb2); (try clear hk); (try clear hi); (try clear ho0); obtain ⟨Ao50, co50, eo50⟩ := Kd.R_slice HO_7.out; subst eo50) | (go_at_call 27; (with_reducible refine (caduceuslaw07_refs.calls kj21 _ _ t701 t729 _ ?side1 ?side2 A42.out).mono ?_); (case side1 => repeat (first | exact (Kd.R_reads' HO_7.out).2.2 | (with_reducible refine Kd.C_alloc ?_ _) | (with_reducible refine Kd.C_drewN ?_ _) | (with_reducible refine Kd.C_drew ?_))); (case side2 => exact (Kd.R_reads' HO_7.out).2.1); rintro e w51 ⟨v730, rfl, ho0, hb⟩; have n0_ := Aside0.mk (Kd.R_below (by (with_reducible repeat (first | apply Kd.R_alloc | apply Kd.R_drewN | apply Kd.R_drew)); exact HO_7.out) hb); have n1_ := Aside0.mk (Kd.R_below (by (with_reducible repeat (first | apply Kd.R_alloc | apply Kd.R_drewN | apply Kd.R_drew)); exact HO_10.out) hb); have n2_ := Aside0.mk (Kd.R_below (by (with_reducible repeat (first | apply Kd.R_alloc | apply Kd.R_drewN | apply Kd.R_drew)); exact HO724.out) hb); have n3_ := Aside0.mk (Kd.R_elder' (by (with_reducible repeat (first | apply Kd.R_alloc | apply Kd.R_drewN | apply Kd.R_drew)); exact HO728.out) (Kd.R_base ho0) hb); have n4_ := Aside0.mk (Kd.R_lower (Kd.R_new' ho0 (Kd.R_lt (by (with_reducible repeat (first | apply Kd.R_alloc | apply Kd.R_drewN | apply Kd.R_drew)); exact HO728.out))) (below_size bwA)); have n5_ := Aside0.mk (below_step bwA hb); clear HO_7; clear HO_10; clear HO724; clear HO728; clear HB; have HO_7 := n0_; have HO_10 := n1_; have HO724 := n2_; have HO728 := n3_; have HO731 := n4_; have HB := n5_; clear n0_ n1_ n2_ n3_ n4_ n5_; (try clear hb); (try clear hb2); (try clear hk); (try clear hi); (try clear ho0); obtain ⟨Ao52, co52, eo52⟩ := Kd.R_slice HO_10.out; subst eo52) | (go_at_call 27; (with_reducible refine (caduceuslaw07_refs.calls kj21 _ _ t706 t732 _ ?side1 ?side2 A43.out).mono ?_); (case side1 => repeat (first | exact (Kd.R_reads' HO_10.out).2.2 | (with_reducible refine Kd.C_alloc ?_ _) | (with_reducible refine Kd.C_drewN ?_ _) | (with_reducible refine Kd.C_drew ?_))); (case side2 => exact (Kd.R_reads' HO_10.out).2.1); rintro e w53 ⟨v733, rfl, ho0, hb⟩; have n0_ := Aside0.mk (Kd.R_below (by (with_reducible repeat (first | apply Kd.R_alloc | apply Kd.R_drewN | apply Kd.R_drew)); exact HO_7.out) hb); have n1_ := Aside0.mk (Kd.R_below (by (with_reducible repeat (first | apply Kd.R_alloc | apply Kd.R_drewN | apply Kd.R_drew)); exact HO_10.out) hb); have n2_ := Aside0.mk (Kd.R_below (by (with_reducible repeat (first | apply Kd.R_alloc | apply Kd.R_drewN | apply Kd.R_drew)); exact HO724.out) hb); have n3_ := Aside0.mk (Kd.R_elder' (by (with_reducible repeat (first | apply Kd.R_alloc | apply Kd.R_drewN | apply Kd.R_drew)); exact HO728.out) (Kd.R_base ho0) hb); have n4_ := Aside0.mk (Kd.R_elder' (by (with_reducible repeat (first | apply Kd.R_alloc | apply Kd.R_drewN | apply Kd.R_drew)); exact HO731.out) (Kd.R_base ho0) hb); have n5_ := Aside0.mk (Kd.R_lower (Kd.R_new' (Kd.R_new' ho0 (Kd.R_lt (by (with_reducible repeat (first | apply Kd.R_alloc | apply Kd.R_drewN | apply Kd.R_drew)); exact HO728.out))) (Kd.R_lt (by (with_reducible repeat (first | apply Kd.R_alloc | apply Kd.R_drewN | apply Kd.R_drew)); exact HO731.out))) (below_size bwA)); have n6_ := Aside0.mk (below_step bwA hb); clear HO_7; clear HO_10; clear HO724; clear HO728; clear HO731; clear HB; have HO_7 := n0_; have HO_10 := n1_; have HO724 := n2_; have HO728 := n3_; have HO731 := n4_; have HO734 := n5_; have HB := n6_; clear n0_ n1_ n2_ n3_ n4_ n5_ n6_; (try clear hb); (try clear hb2); (try clear hk); (try clear hi); (try clear ho0); obtain ⟨Ao55, co55, eo55⟩ := Kd.R_slice HO734.out; subst eo55) | ((with_reducible refine gate_builtin (b := .append) (xs := #[.tmp 95, .tmp 97]) rfl ?_); (try (refine gate_guard (by rfl) ?_; dsimp only)); at_builtin; refine Kd.R_append_rows k81 (w0 := w) w.heap.size rfl (.tmp 95) (.tmp 97) 46 81 (.agg #[(.int .i64 0), (.int .i64 0), (.string ⟨#[]⟩), (.int .i64 0), (.int .i64 0), (.string ⟨#[]⟩)]) 64 rfl Tryd.underlying46 info81 rfl (by decide) (by omega) v730 t729 t732 _ _ _ (fun k_ => some k_ ≠ (v727 : Value).ownBlock ∧ some k_ ≠ (.slice Ao55 t732.length co55 : Value).ownBlock) (fun _ => False) rfl rfl ?aO ?aR (fun _ _ h => h) (fun _ h => h.elim) ?aF ?aB ?aS ?aL ?_; (case aR => repeat (first | exact (Kd.R_reads' HO734.out).2.2 | (with_reducible refine Kd.C_alloc ?_ _) | (with_reducible refine Kd.C_drewN ?_ _) | (with_reducible refine Kd.C_drew ?_))); (case aB => exact bwA); (case aF => exact (fun k_ hk => ⟨Kd.fresh' (Kd.R_lt (by (with_reducible repeat (first | apply Kd.R_alloc | apply Kd.R_drewN | apply Kd.R_drew)); exact HO728.out)) k_ hk, Kd.fresh' (Kd.R_lt (by (with_reducible repeat (first | apply Kd.R_alloc | apply Kd.R_drewN | apply Kd.R_drew)); exact HO734.out)) k_ hk⟩)); (case aO => exact (by (with_reducible repeat (first | apply Kd.R_alloc | apply Kd.R_drewN | apply Kd.R_drew)); exact Kd.R_mono HO731.out (fun _ hk => ⟨hk.1.2, hk.2⟩))); (case aS => exact (below_size bwA)); (case aL => have := LMc44.out; omega); intro v736 w54 ho hb hg hat; rw [← Ny735.out] at ho; have n0_ := Aside0.mk (Kd.R_over' (by (with_reducible repeat (first | apply Kd.R_alloc | apply Kd.R_drewN | apply Kd.R_drew)); exact HO_7.out) (Kd.R_typed (by (with_reducible repeat (first | apply Kd.R_alloc | apply Kd.R_drewN | apply Kd.R_drew)); exact HO731.out)) (by decide) hg); have n1_ := Aside0.mk (Kd.R_over' (by (with_reducible repeat (first | apply Kd.R_alloc | apply Kd.R_drewN | apply Kd.R_drew)); exact HO_10.out) (Kd.R_typed (by (with_reducible repeat (first | apply Kd.R_alloc | apply Kd.R_drewN | apply Kd.R_drew)); exact HO731.out)) (by decide) hg); have n2_ := Aside0.mk (Kd.R_over' (by (with_reducible repeat (first | apply Kd.R_alloc | apply Kd.R_drewN | apply Kd.R_drew)); exact HO724.out) (Kd.R_typed (by (with_reducible repeat (first | apply Kd.R_alloc | apply Kd.R_drewN | apply Kd.R_drew)); exact HO731.out)) (by decide) hg); have n3_ := Aside0.mk (Kd.R_after (ok := (fun k_ => some k_ ≠ (.slice Ao55 t732.length co55 : Value).ownBlock)) (by (with_reducible repeat (first | apply Kd.R_alloc | apply Kd.R_drewN | apply Kd.R_drew)); exact Kd.R_mono HO728.out (fun _ hk => ⟨hk.2, hk.1.2⟩)) hg hat); have n4_ := Aside0.mk (Kd.R_after (ok := (fun k_ => some k_ ≠ (v727 : Value).ownBlock)) (by (with_reducible repeat (first | apply Kd.R_alloc | apply Kd.R_drewN | apply Kd.R_drew)); exact Kd.R_mono HO734.out (fun _ hk => ⟨hk.1.2, hk.2⟩)) hg hat); have n5_ := Aside0.mk (hb); have n6_ := Aside0.mk (ho); clear HO_7; clear HO_10; clear HO724; clear HO728; clear HO734; clear HB; clear HO731; have HO_7 := n0_; have HO_10 := n1_; have HO724 := n2_; have HO728 := n3_; have HO734 := n4_; have HB := n5_; have HO737 := n6_; clear n0_ n1_ n2_ n3_ n4_ n5_ n6_; clear ho hb hg hat; obtain ⟨Ao56, co56, eo56⟩ := Kd.R_slice HO728.out; subst eo56; obtain ⟨Ao57, co57, eo57⟩ := Kd.R_slice HO737.out; subst eo57) | (go_at_call 26; (with_reducible refine (caduceusref07_Same.calls kj21 _ _ t726 _ _ y735 true t738 _ ?side1 ?side2 ?side3 ?side4 A45.out).mono ?_); (case side1 => repeat (first | exact (Kd.R_reads' HO728.out).2.2 | (with_reducible refine Kd.C_alloc ?_ _) | (with_reducible refine Kd.C_drewN ?_ _) | (with_reducible refine Kd.C_drew ?_))); (case side2 => exact (Kd.R_reads' HO728.out).2.1); (case side3 => repeat (first | exact (Kd.R_reads' HO737.out).2.2 | (with_reducible refine Kd.C_alloc ?_ _) | (with_reducible refine Kd.C_drewN ?_ _) | (with_reducible refine Kd.C_drew ?_))); (case side4 => exact (Kd.R_reads' HO737.out).2.1); rintro e w' ⟨rfl, ⟨nd, rfl⟩⟩))
              go_ret
              exact ⟨by first | rfl | (simp [errW_none, errW_some] <;> rfl) | (simp [*, errW_none, errW_some] <;> rfl), by repeat (first | (with_reducible first | exact HB.out | apply below_alloc | apply pw_below_drewN | apply below_drew1) | exact HB.out)⟩
             ·rw [if_neg c44] at H
              exact absurd H (by simp)
            ·rw [if_neg c40] at H
             exact absurd H (by simp)
           ·replace c39 := Bool.eq_false_iff.mpr c39
            subst c39
            have H1 : (none) = some r := by rw [if_neg (show ¬ (false = true) by decide)] at H; exact H
            clear H
            have H := H1
            clear H1
            exact absurd H (by simp)
          ·rw [if_neg c36] at H
           exact absurd H (by simp)
       ·rw [if_neg c21] at H
        exact absurd H (by simp)

end Go.Proofs.YtoajlmmkkcelgaaDoor.A
