-- By drv.py, the session's own driver round the kit's print: the machine's side of the laws, function by function. Not trusted: Lean checks it.
import Derived.Test.YtoajlmmkkcelgaaDoorAx0
import Derived.Test.YtoajlmmkkcelgaaDoorAx16
import Derived.Test.YtoajlmmkkcelgaaDoorAx17
namespace Go.Proofs.YtoajlmmkkcelgaaDoor.A
open Go.RowKit Go.Proofs.YtoajlmmkkcelgaaDoorW.PrintWords Go.Proofs.YtoajlmmkkcelgaaDoorW.PrintLast Go.Proofs.YtoajlmmkkcelgaaDoorW.PrintMore
attribute [local go_sem] max2_int min2_int max_two min_two max_three min_three max_four min_four   -- for this text's walks alone
set_option linter.unusedVariables false
set_option linter.unusedSimpArgs false

/-! ### caduceuslaw07_LexMany: function 6 -/
mutual
def caduceuslaw07_LexMany.l0 : Nat → Int → Int → ByteArray → Int → Option (Bool)
 | 0, _, _, _, _ => none
 | k + 1, x0, x1, x5, x6 => if x6 < x0 then (caduceuslaw07_LexMany.l1 k x0 x1 x5 x6 0) else ((lex_Lex.f k x5).bind fun bt574 => (if x0 > 300 then ((caduceuslaw07_awake.f k).bind fun t579 => (if t579 = true then (if (bt574.1.length : Int) = 0 then (if bt574.2.2 = 2 then (some (bt574.2.1 == (wrap64 ((wrap64 ((wrap64 (x1 + 1)) * 300)) + x1)))) else (none)) else (none)) else (none))) else ((caduceuslaw07_awake.f k).bind fun t580 => (if t580 = true then (if (bt574.1.length : Int) = x0 then (if bt574.2.2 = 0 then (some (bt574.2.1 == (x5.size : Int))) else (none)) else (none)) else (none)))))
def caduceuslaw07_LexMany.l1 : Nat → Int → Int → ByteArray → Int → Int → Option (Bool)
 | 0, _, _, _, _, _ => none
 | k + 1, x0, x1, x5, x6, x7 => if x7 < x1 then (if x5.size + 1 ≤ 9223372036854775807 then (caduceuslaw07_LexMany.l1 k x0 x1 (x5 ++ (⟨#[32]⟩ : ByteArray)) x6 (wrap64 (x7 + 1))) else (none)) else (if x5.size + 1 ≤ 9223372036854775807 then (caduceuslaw07_LexMany.l0 k x0 x1 (x5 ++ (⟨#[40]⟩ : ByteArray)) (wrap64 (x6 + 1))) else (none))
end
def caduceuslaw07_LexMany.f (k : Nat) (a0 : Int) (a1 : Int) : Option (Bool) := caduceuslaw07_LexMany.l0 k (wrap64 (290 + (Int.tmod (wrap64 ((Int.tmod a0 20) + 20)) 20))) (Int.tmod (wrap64 ((Int.tmod a1 3) + 3)) 3) (⟨#[]⟩ : ByteArray) 0
theorem caduceuslaw07_LexMany.mono_l : ∀ k, (∀ y0 y1 y2 y3, LeO (caduceuslaw07_LexMany.l0 k y0 y1 y2 y3) (caduceuslaw07_LexMany.l0 (k + 1) y0 y1 y2 y3)) ∧ (∀ y0 y1 y2 y3 y4, LeO (caduceuslaw07_LexMany.l1 k y0 y1 y2 y3 y4) (caduceuslaw07_LexMany.l1 (k + 1) y0 y1 y2 y3 y4))
 | 0 => ⟨fun _ _ _ _ r h => by simp [caduceuslaw07_LexMany.l0] at h, fun _ _ _ _ _ r h => by simp [caduceuslaw07_LexMany.l1] at h⟩
 | k + 1 => by
  obtain ⟨ih0, ih1⟩ := caduceuslaw07_LexMany.mono_l k
  refine ⟨?_, ?_⟩
  all_goals intros
  all_goals first | unfold caduceuslaw07_LexMany.l0 | unfold caduceuslaw07_LexMany.l1
  all_goals repeat' first
   | (with_reducible exact ih0 _ _ _ _)
   | (with_reducible exact ih1 _ _ _ _ _)
   | (with_reducible exact caduceuslaw07_awake.mono _)
   | (with_reducible exact lex_Lex.mono _ _)
   | (with_reducible exact LeO.refl _)
   | (with_reducible exact LeO.none _)
   | (with_reducible refine LeO.ite ?_ ?_)
   | (with_reducible refine LeO.bind ?_ (fun _ => ?_))
   | exact ih0 _ _ _ _
   | exact ih1 _ _ _ _ _
   | exact caduceuslaw07_awake.mono _
   | exact lex_Lex.mono _ _
   | exact LeO.none _
   | refine LeO.ite ?_ ?_
   | refine LeO.bind ?_ (fun _ => ?_)
theorem caduceuslaw07_LexMany.mono : ∀ a0 a1 k, LeO (caduceuslaw07_LexMany.f k a0 a1) (caduceuslaw07_LexMany.f (k + 1) a0 a1) := by
 intro a0 a1 k
 obtain ⟨ih0, ih1⟩ := caduceuslaw07_LexMany.mono_l k
 unfold caduceuslaw07_LexMany.f
 repeat' first
   | (with_reducible exact ih0 _ _ _ _)
   | (with_reducible exact ih1 _ _ _ _ _)
   | (with_reducible exact caduceuslaw07_awake.mono _)
   | (with_reducible exact lex_Lex.mono _ _)
   | (with_reducible exact LeO.refl _)
   | (with_reducible exact LeO.none _)
   | (with_reducible refine LeO.ite ?_ ?_)
   | (with_reducible refine LeO.bind ?_ (fun _ => ?_))
   | exact ih0 _ _ _ _
   | exact ih1 _ _ _ _ _
   | exact caduceuslaw07_awake.mono _
   | exact lex_Lex.mono _ _
   | exact LeO.none _
   | refine LeO.ite ?_ ?_
   | refine LeO.bind ?_ (fun _ => ?_)
set_option maxHeartbeats 8000000 in
set_option maxRecDepth 100000 in
theorem caduceuslaw07_LexMany.calls (k : Nat) (a0 : Int) (a1 : Int) (r : Bool) (w : World) (hT : Tabs w) (h : caduceuslaw07_LexMany.f k a0 a1 = some r) :
  Calls Tryd.prog 6 #[.int .i64 a0, .int .i64 a1] w fun e w' => e = .returned (.bool r) ∧ Below w.heap.size w w' := by
 have HB := Aside0.mk (Below.refl w.heap.size w)
 have H : (caduceuslaw07_LexMany.l0 k (wrap64 (290 + (Int.tmod (wrap64 ((Int.tmod a0 20) + 20)) 20))) (Int.tmod (wrap64 ((Int.tmod a1 3) + 3)) 3) (⟨#[]⟩ : ByteArray) 0) = some r := h
 clear h
 have HT := Aside0.mk hT
 clear hT
 have H' := Aside0.mk H
 clear H
 go_enter Tryd.func6, Tryd.ntmps6
 go_wp2
 go_loopg [5, 6] k (fun kq v5 v6 w' => ∃ (x5_1 : ByteArray) (x6_1 : Int), v5 = .string x5_1 ∧ v6 = .int .i64 x6_1 ∧ Aside0 (caduceuslaw07_LexMany.l0 kq (wrap64 (290 + (Int.tmod (wrap64 ((Int.tmod a0 20) + 20)) 20))) (Int.tmod (wrap64 ((Int.tmod a1 3) + 3)) 3) x5_1 x6_1 = some r) ∧ Aside0 (kq ≤ k) ∧ Aside0 (Below w.heap.size w w'))
 case atStart => exact ⟨((⟨#[]⟩ : ByteArray)), (0), (by first | rfl | (simp; done) | (simp [*]; done)), (by first | rfl | (simp; done) | (simp [*]; done)), H', ⟨Nat.le_refl _⟩, ⟨by repeat (first | (with_reducible first | exact HB.out | apply below_alloc | apply pw_below_drewN | apply below_drew1) | exact HB.out)⟩⟩
 case round =>
  clear H'
  try clear p2
  obtain ⟨x5_1, x6_1, rfl, rfl, HA, HK1, HB⟩ := hrel
  cases gk with
  | zero => exact absurd HA.out (by simp [caduceuslaw07_LexMany.l0])
  | succ k1 =>
   have H := HA.out
   clear HA
   simp only [caduceuslaw07_LexMany.l0] at H
   by_cases c3 : x6_1 < (wrap64 (290 + (Int.tmod (wrap64 ((Int.tmod a0 20) + 20)) 20)))
   ·rw [if_pos c3] at H
    have c3b0 : decide (x6_1 < (wrap64 (290 + (Int.tmod (wrap64 ((Int.tmod a0 20) + 20)) 20)))) = true := decide_eq_true c3
    clear c3
    have H' := Aside0.mk H
    clear H
    go_wp2
    go_loopg [5, 7] k1 (fun kq v5 v7 w' => ∃ (x5_2 : ByteArray) (x7_2 : Int), v5 = .string x5_2 ∧ v7 = .int .i64 x7_2 ∧ Aside0 (caduceuslaw07_LexMany.l1 kq (wrap64 (290 + (Int.tmod (wrap64 ((Int.tmod a0 20) + 20)) 20))) (Int.tmod (wrap64 ((Int.tmod a1 3) + 3)) 3) x5_2 x6_1 x7_2 = some r) ∧ Aside0 (kq ≤ k1) ∧ Aside0 (Below w.heap.size w w'))
    case atStart => exact ⟨(x5_1), (0), (by first | rfl | (simp; done) | (simp [*]; done)), (by first | rfl | (simp; done) | (simp [*]; done)), H', ⟨Nat.le_refl _⟩, ⟨by repeat (first | (with_reducible first | exact HB.out | apply below_alloc | apply pw_below_drewN | apply below_drew1) | exact HB.out)⟩⟩
    case round =>
     clear H'
     try clear p2
     try clear c3
     try clear c3b0
     try clear p2
     obtain ⟨x5_2, x7_2, rfl, rfl, HA, HK2, HB⟩ := hrel
     cases gk with
     | zero => exact absurd HA.out (by simp [caduceuslaw07_LexMany.l1])
     | succ k2 =>
      have H := HA.out
      clear HA
      simp only [caduceuslaw07_LexMany.l1] at H
      by_cases c4 : x7_2 < (Int.tmod (wrap64 ((Int.tmod a1 3) + 3)) 3)
      ·rw [if_pos c4] at H
       have c4b0 : decide (x7_2 < (Int.tmod (wrap64 ((Int.tmod a1 3) + 3)) 3)) = true := decide_eq_true c4
       clear c4
       by_cases c5 : x5_2.size + 1 ≤ 9223372036854775807
       ·rw [if_pos c5] at H
        have c5b0 := eq_true c5
        have c5b1 : decide (x5_2.size + 1 ≤ 9223372036854775807) = true := decide_eq_true c5
        try have c5b2 : (9223372036854775807 < x5_2.size + 1) = False := eq_false (Nat.not_lt.2 c5)
        have H' := Aside0.mk H
        clear H
        go_wp2
        go_roundg k2
        case measure => have := HK1.out; have := HK2.out; omega
        case rel => exact ⟨(x5_2 ++ (⟨#[32]⟩ : ByteArray)), (wrap64 (x7_2 + 1)), (by first | rfl | (simp; done) | (simp [*]; done)), (by first | rfl | (simp; done) | (simp [*]; done)), H', ⟨by have := HK1.out; have := HK2.out; omega⟩, ⟨by repeat (first | (with_reducible first | exact HB.out | apply below_alloc | apply pw_below_drewN | apply below_drew1) | exact HB.out)⟩⟩
       ·rw [if_neg c5] at H
        exact absurd H (by simp)
      ·rw [if_neg c4] at H
       have c4b0 : decide (x7_2 < (Int.tmod (wrap64 ((Int.tmod a1 3) + 3)) 3)) = false := decide_eq_false c4
       clear c4
       by_cases c6 : x5_2.size + 1 ≤ 9223372036854775807
       ·rw [if_pos c6] at H
        have c6b0 := eq_true c6
        have c6b1 : decide (x5_2.size + 1 ≤ 9223372036854775807) = true := decide_eq_true c6
        try have c6b2 : (9223372036854775807 < x5_2.size + 1) = False := eq_false (Nat.not_lt.2 c6)
        have H' := Aside0.mk H
        clear H
        go_wp2
        go_roundg k2
        case measure => have := HK1.out; have := HK2.out; omega
        case rel => exact ⟨(x5_2 ++ (⟨#[40]⟩ : ByteArray)), (wrap64 (x6_1 + 1)), (by first | rfl | (simp; done) | (simp [*]; done)), (by first | rfl | (simp; done) | (simp [*]; done)), H', ⟨by have := HK1.out; have := HK2.out; omega⟩, ⟨by repeat (first | (with_reducible first | exact HB.out | apply below_alloc | apply pw_below_drewN | apply below_drew1) | exact HB.out)⟩⟩
       ·rw [if_neg c6] at H
        exact absurd H (by simp)
   ·rw [if_neg c3] at H
    have c3b0 : decide (x6_1 < (wrap64 (290 + (Int.tmod (wrap64 ((Int.tmod a0 20) + 20)) 20)))) = false := decide_eq_false c3
    clear c3
    replace H := Option.bind_eq_some_iff.mp H
    obtain ⟨⟨t574, t575, t576⟩, A70, H⟩ := H
    replace H : (if (wrap64 (290 + (Int.tmod (wrap64 ((Int.tmod a0 20) + 20)) 20))) > 300 then ((caduceuslaw07_awake.f k1).bind fun t579 => (if t579 = true then (if (t574.length : Int) = 0 then (if t576 = 2 then (some (t575 == (wrap64 ((wrap64 ((wrap64 ((Int.tmod (wrap64 ((Int.tmod a1 3) + 3)) 3) + 1)) * 300)) + (Int.tmod (wrap64 ((Int.tmod a1 3) + 3)) 3))))) else (none)) else (none)) else (none))) else ((caduceuslaw07_awake.f k1).bind fun t580 => (if t580 = true then (if (t574.length : Int) = (wrap64 (290 + (Int.tmod (wrap64 ((Int.tmod a0 20) + 20)) 20))) then (if t576 = 0 then (some (t575 == (x5_1.size : Int))) else (none)) else (none)) else (none)))) = some r := H
    have A7 := Aside0.mk A70
    clear A70
    by_cases c8 : (wrap64 (290 + (Int.tmod (wrap64 ((Int.tmod a0 20) + 20)) 20))) > 300
    ·rw [if_pos c8] at H
     have c8b0 : decide (300 < (wrap64 (290 + (Int.tmod (wrap64 ((Int.tmod a0 20) + 20)) 20)))) = true := decide_eq_true c8
     clear c8
     replace H := Option.bind_eq_some_iff.mp H
     obtain ⟨t579, A90, H⟩ := H
     replace H : (if t579 = true then (if (t574.length : Int) = 0 then (if t576 = 2 then (some (t575 == (wrap64 ((wrap64 ((wrap64 ((Int.tmod (wrap64 ((Int.tmod a1 3) + 3)) 3) + 1)) * 300)) + (Int.tmod (wrap64 ((Int.tmod a1 3) + 3)) 3))))) else (none)) else (none)) else (none)) = some r := H
     have A9 := Aside0.mk A90
     clear A90
     by_cases c10 : t579 = true
     ·subst c10
      have H1 : (if (t574.length : Int) = 0 then (if t576 = 2 then (some (t575 == (wrap64 ((wrap64 ((wrap64 ((Int.tmod (wrap64 ((Int.tmod a1 3) + 3)) 3) + 1)) * 300)) + (Int.tmod (wrap64 ((Int.tmod a1 3) + 3)) 3))))) else (none)) else (none)) = some r := by rw [if_pos rfl] at H; exact H
      clear H
      have H := H1
      clear H1
      by_cases c11 : (t574.length : Int) = 0
      ·rw [if_pos c11] at H
       have c11b0 : ((t574.length : Int) == 0) = true := beq_iff_eq.mpr c11
       have c11b1 : ((t574.length : Int) != 0) = false := bne_eq_false_iff_eq.mpr c11
       clear c11
       by_cases c12 : t576 = 2
       ·rw [if_pos c12] at H
        have c12b0 : (t576 == 2) = true := beq_iff_eq.mpr c12
        have c12b1 : (t576 != 2) = false := bne_eq_false_iff_eq.mpr c12
        clear c12
        obtain rfl := Option.some.inj H
        go_wp2_with (first | ((with_reducible refine gate_callee (f := 25) rfl ?_); refine goesA (some 36) Tryd.func25 #[.string x5_1] ?_; (with_reducible refine (lex_Lex.calls k1 x5_1 t574 t575 t576 _ ?side1 A7.out).mono ?_); (case side1 => exact Tabs.below HT.out bwA); rintro e w13 ⟨v577, rfl, ho0, hb⟩; refine ⟨_, rfl, ?_⟩; have n0_ := Aside0.mk (Kd.R_lower ho0 (below_size bwA)); have n1_ := Aside0.mk (below_step bwA hb); clear HB; have HO578 := n0_; have HB := n1_; clear n0_ n1_; (try clear hb); (try clear hb2); (try clear hk); (try clear hi); (try clear ho0)) | ((with_reducible refine gate_callee (f := 24) rfl ?_); refine goesA (some 42) Tryd.func24 #[] ?_; (with_reducible refine (caduceuslaw07_awake.calls k1  true _ ?side1 A9.out).mono ?_); (case side1 => exact Tabs.below HT.out bwA); rintro e w14 ⟨rfl, hb⟩; refine ⟨_, rfl, ?_⟩; have n0_ := Aside0.mk (Kd.R_below (by (with_reducible repeat (first | apply Kd.R_alloc | apply Kd.R_drewN | apply Kd.R_drew)); exact HO578.out) hb); have n1_ := Aside0.mk (below_step bwA hb); clear HO578; clear HB; have HO578 := n0_; have HB := n1_; clear n0_ n1_; (try clear hb); (try clear hb2); (try clear hk); (try clear hi); obtain ⟨Ao15, co15, eo15⟩ := Kd.R_slice HO578.out; subst eo15))
        go_ret
        exact ⟨by first | rfl | (simp [errW_none, errW_some] <;> rfl) | (simp [*, errW_none, errW_some] <;> rfl), by repeat (first | (with_reducible first | exact HB.out | apply below_alloc | apply pw_below_drewN | apply below_drew1) | exact HB.out)⟩
       ·rw [if_neg c12] at H
        exact absurd H (by simp)
      ·rw [if_neg c11] at H
       exact absurd H (by simp)
     ·replace c10 := Bool.eq_false_iff.mpr c10
      subst c10
      have H1 : (none) = some r := by rw [if_neg (show ¬ (false = true) by decide)] at H; exact H
      clear H
      have H := H1
      clear H1
      exact absurd H (by simp)
    ·rw [if_neg c8] at H
     have c8b0 : decide (300 < (wrap64 (290 + (Int.tmod (wrap64 ((Int.tmod a0 20) + 20)) 20)))) = false := decide_eq_false c8
     clear c8
     replace H := Option.bind_eq_some_iff.mp H
     obtain ⟨t580, A160, H⟩ := H
     replace H : (if t580 = true then (if (t574.length : Int) = (wrap64 (290 + (Int.tmod (wrap64 ((Int.tmod a0 20) + 20)) 20))) then (if t576 = 0 then (some (t575 == (x5_1.size : Int))) else (none)) else (none)) else (none)) = some r := H
     have A16 := Aside0.mk A160
     clear A160
     by_cases c17 : t580 = true
     ·subst c17
      have H1 : (if (t574.length : Int) = (wrap64 (290 + (Int.tmod (wrap64 ((Int.tmod a0 20) + 20)) 20))) then (if t576 = 0 then (some (t575 == (x5_1.size : Int))) else (none)) else (none)) = some r := by rw [if_pos rfl] at H; exact H
      clear H
      have H := H1
      clear H1
      by_cases c18 : (t574.length : Int) = (wrap64 (290 + (Int.tmod (wrap64 ((Int.tmod a0 20) + 20)) 20)))
      ·rw [if_pos c18] at H
       have c18b0 : ((t574.length : Int) == (wrap64 (290 + (Int.tmod (wrap64 ((Int.tmod a0 20) + 20)) 20)))) = true := beq_iff_eq.mpr c18
       have c18b1 : ((t574.length : Int) != (wrap64 (290 + (Int.tmod (wrap64 ((Int.tmod a0 20) + 20)) 20)))) = false := bne_eq_false_iff_eq.mpr c18
       clear c18
       by_cases c19 : t576 = 0
       ·rw [if_pos c19] at H
        have c19b0 : (t576 == 0) = true := beq_iff_eq.mpr c19
        have c19b1 : (t576 != 0) = false := bne_eq_false_iff_eq.mpr c19
        clear c19
        obtain rfl := Option.some.inj H
        go_wp2_with (first | ((with_reducible refine gate_callee (f := 25) rfl ?_); refine goesA (some 36) Tryd.func25 #[.string x5_1] ?_; (with_reducible refine (lex_Lex.calls k1 x5_1 t574 t575 t576 _ ?side1 A7.out).mono ?_); (case side1 => exact Tabs.below HT.out bwA); rintro e w20 ⟨v577, rfl, ho0, hb⟩; refine ⟨_, rfl, ?_⟩; have n0_ := Aside0.mk (Kd.R_lower ho0 (below_size bwA)); have n1_ := Aside0.mk (below_step bwA hb); clear HB; have HO578 := n0_; have HB := n1_; clear n0_ n1_; (try clear hb); (try clear hb2); (try clear hk); (try clear hi); (try clear ho0)) | ((with_reducible refine gate_callee (f := 24) rfl ?_); refine goesA (some 61) Tryd.func24 #[] ?_; (with_reducible refine (caduceuslaw07_awake.calls k1  true _ ?side1 A16.out).mono ?_); (case side1 => exact Tabs.below HT.out bwA); rintro e w21 ⟨rfl, hb⟩; refine ⟨_, rfl, ?_⟩; have n0_ := Aside0.mk (Kd.R_below (by (with_reducible repeat (first | apply Kd.R_alloc | apply Kd.R_drewN | apply Kd.R_drew)); exact HO578.out) hb); have n1_ := Aside0.mk (below_step bwA hb); clear HO578; clear HB; have HO578 := n0_; have HB := n1_; clear n0_ n1_; (try clear hb); (try clear hb2); (try clear hk); (try clear hi); obtain ⟨Ao22, co22, eo22⟩ := Kd.R_slice HO578.out; subst eo22))
        go_ret
        exact ⟨by first | rfl | (simp [errW_none, errW_some] <;> rfl) | (simp [*, errW_none, errW_some] <;> rfl), by repeat (first | (with_reducible first | exact HB.out | apply below_alloc | apply pw_below_drewN | apply below_drew1) | exact HB.out)⟩
       ·rw [if_neg c19] at H
        exact absurd H (by simp)
      ·rw [if_neg c18] at H
       exact absurd H (by simp)
     ·replace c17 := Bool.eq_false_iff.mpr c17
      subst c17
      have H1 : (none) = some r := by rw [if_neg (show ¬ (false = true) by decide)] at H; exact H
      clear H
      have H := H1
      clear H1
      exact absurd H (by simp)

end Go.Proofs.YtoajlmmkkcelgaaDoor.A
