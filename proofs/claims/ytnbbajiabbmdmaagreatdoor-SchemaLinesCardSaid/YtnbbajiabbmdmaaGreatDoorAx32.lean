-- By drv.py, the session's own driver round the kit's print: the machine's side of the laws, function by function. Not trusted: Lean checks it.
import Derived.Test.YtnbbajiabbmdmaaGreatDoorAx0
import Derived.Test.YtnbbajiabbmdmaaGreatDoorAx27
import Derived.Test.YtnbbajiabbmdmaaGreatDoorAx29
import Derived.Test.YtnbbajiabbmdmaaGreatDoorAx31
namespace Go.Proofs.YtnbbajiabbmdmaaGreatDoor.A
open Go.RowKit Go.Proofs.YtnbbajiabbmdmaaGreatDoorW.PrintWords Go.Proofs.YtnbbajiabbmdmaaGreatDoorW.PrintLast Go.Proofs.YtnbbajiabbmdmaaGreatDoorW.PrintMore
attribute [local go_sem] max2_int min2_int max_two min_two max_three min_three max_four min_four   -- for this text's walks alone
set_option linter.unusedVariables false
set_option linter.unusedSimpArgs false

/-! ### caduceusref02_Parts: function 86 -/
mutual
def caduceusref02_Parts.l0 : Nat → List (List Int) → List ByteArray → Int → Option (List ByteArray)
 | 0, _, _, _ => none
 | k + 1, x3, x4, x5 => if x5 < (x3.length : Int) then (caduceusref02_Parts.l1 k x3 x4 x5 (⟨#[]⟩ : ByteArray) 0) else (some x4)
def caduceusref02_Parts.l1 : Nat → List (List Int) → List ByteArray → Int → ByteArray → Int → Option (List ByteArray)
 | 0, _, _, _, _, _ => none
 | k + 1, x3, x4, x5, x6, x7 => if 0 ≤ x5 then (if x5 < (x3.length : Int) then (if x7 < ((rd_L14 x3 x5).length : Int) then (if 0 ≤ x7 then ((caduceusref02_Bytes.f (rd (rd_L14 x3 x5) x7)).bind fun t323 => (if x6.size + t323.size ≤ 9223372036854775807 then (caduceusref02_Parts.l1 k x3 x4 x5 (x6 ++ t323) (wrap64 (x7 + 1))) else (none))) else (none)) else (if x4.length < 8796093022208 then (caduceusref02_Parts.l0 k x3 (x4 ++ [x6]) (wrap64 (x5 + 1))) else (none))) else (none)) else (none)
end
def caduceusref02_Parts.f (k : Nat) (a0 : ByteArray) : Option (List ByteArray) := (caduceusref02_Check.f k a0).bind fun t313 => (if t313 = 0 then ((caduceusref02_Runes.f k a0).bind fun t314 => ((caduceusref02_Split.f k t314).bind fun t317 => (caduceusref02_Parts.l0 k t317 ([] : List ByteArray) 0))) else (some ([] : List ByteArray)))
theorem caduceusref02_Parts.mono_l : ∀ k, (∀ y0 y1 y2, LeO (caduceusref02_Parts.l0 k y0 y1 y2) (caduceusref02_Parts.l0 (k + 1) y0 y1 y2)) ∧ (∀ y0 y1 y2 y3 y4, LeO (caduceusref02_Parts.l1 k y0 y1 y2 y3 y4) (caduceusref02_Parts.l1 (k + 1) y0 y1 y2 y3 y4))
 | 0 => ⟨fun _ _ _ r h => by simp [caduceusref02_Parts.l0] at h, fun _ _ _ _ _ r h => by simp [caduceusref02_Parts.l1] at h⟩
 | k + 1 => by
  obtain ⟨ih0, ih1⟩ := caduceusref02_Parts.mono_l k
  refine ⟨?_, ?_⟩
  all_goals intros
  all_goals first | unfold caduceusref02_Parts.l0 | unfold caduceusref02_Parts.l1
  all_goals repeat' first
   | (with_reducible exact ih0 _ _ _)
   | (with_reducible exact ih1 _ _ _ _ _)
   | (with_reducible exact caduceusref02_Check.mono _ _)
   | (with_reducible exact caduceusref02_Runes.mono _ _)
   | (with_reducible exact caduceusref02_Split.mono _ _)
   | (with_reducible exact LeO.refl _)
   | (with_reducible exact LeO.none _)
   | (with_reducible refine LeO.ite ?_ ?_)
   | (with_reducible refine LeO.bind ?_ (fun _ => ?_))
   | exact ih0 _ _ _
   | exact ih1 _ _ _ _ _
   | exact caduceusref02_Check.mono _ _
   | exact caduceusref02_Runes.mono _ _
   | exact caduceusref02_Split.mono _ _
   | exact LeO.none _
   | refine LeO.ite ?_ ?_
   | refine LeO.bind ?_ (fun _ => ?_)
theorem caduceusref02_Parts.mono : ∀ a0 k, LeO (caduceusref02_Parts.f k a0) (caduceusref02_Parts.f (k + 1) a0) := by
 intro a0 k
 obtain ⟨ih0, ih1⟩ := caduceusref02_Parts.mono_l k
 unfold caduceusref02_Parts.f
 repeat' first
   | (with_reducible exact ih0 _ _ _)
   | (with_reducible exact ih1 _ _ _ _ _)
   | (with_reducible exact caduceusref02_Check.mono _ _)
   | (with_reducible exact caduceusref02_Runes.mono _ _)
   | (with_reducible exact caduceusref02_Split.mono _ _)
   | (with_reducible exact LeO.refl _)
   | (with_reducible exact LeO.none _)
   | (with_reducible refine LeO.ite ?_ ?_)
   | (with_reducible refine LeO.bind ?_ (fun _ => ?_))
   | exact ih0 _ _ _
   | exact ih1 _ _ _ _ _
   | exact caduceusref02_Check.mono _ _
   | exact caduceusref02_Runes.mono _ _
   | exact caduceusref02_Split.mono _ _
   | exact LeO.none _
   | refine LeO.ite ?_ ?_
   | refine LeO.bind ?_ (fun _ => ?_)
set_option maxHeartbeats 8000000 in
set_option maxRecDepth 100000 in
theorem caduceusref02_Parts.calls (k : Nat) (a0 : ByteArray) (r : List ByteArray) (w : World) (h : caduceusref02_Parts.f k a0 = some r) :
  Calls Tryz.prog 86 #[.string a0] w fun e w' => ∃ v0_ : Value, e = .returned (v0_) ∧ Kd.R Kd.string 9 w' w.heap.size (fun _ => True) v0_ r ∧ Below w.heap.size w w' := by
 have HB := Aside0.mk (Below.refl w.heap.size w)
 have H : ((caduceusref02_Check.f k a0).bind fun t313 => (if t313 = 0 then ((caduceusref02_Runes.f k a0).bind fun t314 => ((caduceusref02_Split.f k t314).bind fun t317 => (caduceusref02_Parts.l0 k t317 ([] : List ByteArray) 0))) else (some ([] : List ByteArray)))) = some r := h
 clear h
 replace H := Option.bind_eq_some_iff.mp H
 obtain ⟨t313, A20, H⟩ := H
 replace H : (if t313 = 0 then ((caduceusref02_Runes.f k a0).bind fun t314 => ((caduceusref02_Split.f k t314).bind fun t317 => (caduceusref02_Parts.l0 k t317 ([] : List ByteArray) 0))) else (some ([] : List ByteArray))) = some r := H
 have A2 := Aside0.mk A20
 clear A20
 by_cases c3 : t313 = 0
 ·rw [if_pos c3] at H
  have c3b0 : (t313 == 0) = true := beq_iff_eq.mpr c3
  have c3b1 : (t313 != 0) = false := bne_eq_false_iff_eq.mpr c3
  clear c3
  replace H := Option.bind_eq_some_iff.mp H
  obtain ⟨t314, A40, H⟩ := H
  replace H : ((caduceusref02_Split.f k t314).bind fun t317 => (caduceusref02_Parts.l0 k t317 ([] : List ByteArray) 0)) = some r := H
  have A4 := Aside0.mk A40
  clear A40
  replace H := Option.bind_eq_some_iff.mp H
  obtain ⟨t317, A50, H⟩ := H
  replace H : (caduceusref02_Parts.l0 k t317 ([] : List ByteArray) 0) = some r := H
  have A5 := Aside0.mk A50
  clear A50
  have H' := Aside0.mk H
  clear H
  go_enter Tryz.func86, Tryz.ntmps86
  go_wp2_with (first | ((with_reducible refine gate_callee (f := 85) rfl ?_); refine goesA (some 9) Tryz.func85 #[.string a0] ?_; (with_reducible refine (caduceusref02_Check.calls k a0 t313 _ A2.out).mono ?_); rintro e w6 ⟨rfl, hb⟩; refine ⟨_, rfl, ?_⟩; have n0_ := Aside0.mk (below_step (bwA) hb); clear HB; have HB := n0_; clear n0_; (try clear hb); (try clear hb2); (try clear hk); (try clear hi)) | ((with_reducible refine gate_callee (f := 77) rfl ?_); refine goesA (some 12) Tryz.func77 #[.string a0] ?_; (with_reducible refine (caduceusref02_Runes.calls k a0 t314 _ A4.out).mono ?_); rintro e w7 ⟨v315, rfl, ho0, hb⟩; refine ⟨_, rfl, ?_⟩; have n0_ := Aside0.mk (Kd.R_lower ho0 (below_size (bwA))); have n1_ := Aside0.mk (below_step (bwA) hb); clear HB; have HO316 := n0_; have HB := n1_; clear n0_ n1_; (try clear hb); (try clear hb2); (try clear hk); (try clear hi); (try clear ho0); obtain ⟨Ao8, co8, eo8⟩ := Kd.R_slice HO316.out; subst eo8) | ((with_reducible refine gate_callee (f := 110) rfl ?_); refine goesA (some 13) Tryz.func110 #[.slice Ao8 t314.length co8] ?_; (with_reducible refine (caduceusref02_Split.calls k _ _ t314 t317 _ ?side1 ?side2 A5.out).mono ?_); (case side1 => repeat (first | exact (Kd.R_reads' HO316.out).2.2 | (with_reducible refine Kd.C_alloc ?_ _) | (with_reducible refine Kd.C_drewN ?_ _) | (with_reducible refine Kd.C_drew ?_))); (case side2 => exact (Kd.R_reads' HO316.out).2.1); rintro e w9 ⟨v318, rfl, ho0, hb⟩; refine ⟨_, rfl, ?_⟩; have n0_ := Aside0.mk (Kd.R_below (by (with_reducible repeat (first | apply Kd.R_alloc | apply Kd.R_drewN | apply Kd.R_drew)); exact HO316.out) hb); have n1_ := Aside0.mk (Kd.S_lower (Kd.S_new' ho0 (Kd.R_lt (by (with_reducible repeat (first | apply Kd.R_alloc | apply Kd.R_drewN | apply Kd.R_drew)); exact HO316.out))) (below_size (bwA))); have n2_ := Aside0.mk (below_step (bwA) hb); clear HO316; clear HB; have HO316 := n0_; have HO319 := n1_; have HB := n2_; clear n0_ n1_ n2_; (try clear hb); (try clear hb2); (try clear hk); (try clear hi); (try clear ho0)))
  go_loopg [4, 5] k (fun kq v4 v5 w' => ∃ (x4_1 : List ByteArray) (x5_1 : Int), v5 = .int .i64 x5_1 ∧ Aside0 (caduceusref02_Parts.l0 kq t317 x4_1 x5_1 = some r) ∧ Aside0 (kq ≤ k) ∧ Aside0 (Kd.S (Kd.slice 3 (Kd.int .i64)) 100 w' w.heap.size (fun _ => True) v318 t317) ∧ Aside0 (Kd.R Kd.string 9 w' w.heap.size (fun _ => True) v4 x4_1) ∧ Aside0 (Below w.heap.size w w'))
  case atStart => exact ⟨(([] : List ByteArray)), (0), (endS), H', ⟨Nat.le_refl _⟩, ⟨by (with_reducible repeat (first | apply Kd.S_alloc | apply Kd.S_drewN | apply Kd.S_drew)); exact Kd.S_mono HO319.out (fun _ hk => trivial)⟩, ⟨by first | exact Kd.R_nil _ _ _ _ _ | exact Kd.N_nil _ _ _ _ _ | exact Kd.V_nil _ _ _ _ _ | exact Kd.Q_nil _ _ _ _ _ | exact Kd.S_nil _ _ _ _ _⟩, ⟨bwA⟩⟩
  case round =>
   clear H'
   try clear c1
   try clear p2
   try clear c3
   try clear c3b0
   try clear c3b1
   try clear c7
   try clear c8
   obtain ⟨x4_1, x5_1, rfl, HA, HK1, HO_3, HO_4, HB⟩ := hrel
   cases gk with
   | zero => exact absurd HA.out (by simp [caduceusref02_Parts.l0])
   | succ k1 =>
    have H := HA.out
    clear HA
    simp only [caduceusref02_Parts.l0] at H
    by_cases c10 : x5_1 < (t317.length : Int)
    ·rw [if_pos c10] at H
     have c10b0 : decide (x5_1 < (t317.length : Int)) = true := decide_eq_true c10
     clear c10
     have H' := Aside0.mk H
     clear H
     obtain ⟨Ao11, co11, eo11⟩ := Kd.S_slice HO_3.out
     subst eo11
     go_wp2
     go_loopg [6, 7] k1 (fun kq v6 v7 w' => ∃ (x6_2 : ByteArray) (x7_2 : Int), v6 = .string x6_2 ∧ v7 = .int .i64 x7_2 ∧ Aside0 (caduceusref02_Parts.l1 kq t317 x4_1 x5_1 x6_2 x7_2 = some r) ∧ Aside0 (kq ≤ k1) ∧ Aside0 (Kd.S (Kd.slice 3 (Kd.int .i64)) 100 w' w.heap.size (fun _ => True) (.slice Ao11 t317.length co11) t317) ∧ Aside0 (Kd.R Kd.string 9 w' w.heap.size (fun _ => True) u4 x4_1) ∧ Aside0 (Below w.heap.size w w'))
     case atStart => exact ⟨((⟨#[]⟩ : ByteArray)), (0), (endS), (endS), H', ⟨Nat.le_refl _⟩, ⟨by (with_reducible repeat (first | apply Kd.S_alloc | apply Kd.S_drewN | apply Kd.S_drew)); exact HO_3.out⟩, ⟨by (with_reducible repeat (first | apply Kd.R_alloc | apply Kd.R_drewN | apply Kd.R_drew)); exact HO_4.out⟩, ⟨bwA⟩⟩
     case round =>
      clear H'
      try clear c1
      try clear p2
      try clear c3
      try clear c3b0
      try clear c3b1
      try clear c7
      try clear c8
      try clear c10
      try clear c10b0
      try clear c11
      try clear p2
      obtain ⟨x6_2, x7_2, rfl, rfl, HA, HK2, HO_3, HO_4, HB⟩ := hrel
      cases gk with
      | zero => exact absurd HA.out (by simp [caduceusref02_Parts.l1])
      | succ k2 =>
       have H := HA.out
       clear HA
       simp only [caduceusref02_Parts.l1] at H
       by_cases c12 : 0 ≤ x5_1
       ·rw [if_pos c12] at H
        have c12b0 : decide (0 ≤ x5_1) = true := decide_eq_true c12
        clear c12
        by_cases c13 : x5_1 < (t317.length : Int)
        ·rw [if_pos c13] at H
         have c13b0 : decide (x5_1 < (t317.length : Int)) = true := decide_eq_true c13
         clear c13
         by_cases c14 : x7_2 < ((rd_L14 t317 x5_1).length : Int)
         ·rw [if_pos c14] at H
          have c14b0 : decide (x7_2 < ((rd_L14 t317 x5_1).length : Int)) = true := decide_eq_true c14
          clear c14
          by_cases c15 : 0 ≤ x7_2
          ·rw [if_pos c15] at H
           have c15b0 : decide (0 ≤ x7_2) = true := decide_eq_true c15
           clear c15
           replace H := Option.bind_eq_some_iff.mp H
           obtain ⟨t323, A160, H⟩ := H
           replace H : (if x6_2.size + t323.size ≤ 9223372036854775807 then (caduceusref02_Parts.l1 k2 t317 x4_1 x5_1 (x6_2 ++ t323) (wrap64 (x7_2 + 1))) else (none)) = some r := H
           have A16 := Aside0.mk A160
           clear A160
           by_cases c17 : x6_2.size + t323.size ≤ 9223372036854775807
           ·rw [if_pos c17] at H
            have c17b0 := eq_true c17
            have c17b1 : decide (x6_2.size + t323.size ≤ 9223372036854775807) = true := decide_eq_true c17
            try have c17b2 : (9223372036854775807 < x6_2.size + t323.size) = False := eq_false (Nat.not_lt.2 c17)
            have H' := Aside0.mk H
            clear H
            have p320 : 0 ≤ (x5_1 : Int) := odA
            have q320 : x5_1 < (t317.length : Int) := odA
            obtain ⟨ad320, A320_0, c320_0, e320, hx320_0, hl320_0, hi320_0⟩ := at_L14 (Kd.S_reads' HO_3.out).2.2 x5_1 p320 q320
            cases e320
            obtain ⟨ce320, hce320, hMe320, hcc320⟩ := Kd.S_get HO_3.out [] x5_1 p320 (by first | exact q320 | exact odA | (have e_ := (Kd.S_reads' HO_3.out).1; omega))
            obtain ⟨ve320_0, rfl, ge320_0⟩ := hMe320
            have hv320_0 := hcc320 0 _ rfl
            rw [Nat.add_zero, show ((Kd.slice 3 (Kd.int .i64))).sz = 1 from rfl, Nat.mul_one] at hv320_0
            replace hv320_0 := Option.some.inj (hv320_0.symm.trans hx320_0)
            rw [hv320_0] at ge320_0
            have HL320_0 := Aside0.mk (show Kd.R (Kd.int .i64) 3 _ _ _ _ (rd_L14 t317 x5_1) from ge320_0)
            clear hv320_0 ge320_0
            clear hcc320 hce320
            have HR320_0 := Aside0.mk hi320_0
            have HC320_0 := Aside0.mk hl320_0
            clear hi320_0 hl320_0
            replace p320 := eq_true p320
            replace q320 := eq_true q320
            have p321 : 0 ≤ (x5_1 : Int) := odA
            have q321 : x5_1 < (t317.length : Int) := odA
            obtain ⟨ad321, A321_0, c321_0, e321, hx321_0, hl321_0, hi321_0⟩ := at_L14 (Kd.S_reads' HO_3.out).2.2 x5_1 p321 q321
            obtain rfl : ad320 = ad321 := (by injection e321)
            obtain ⟨ce321, hce321, hMe321, hcc321⟩ := Kd.S_get HO_3.out [] x5_1 p321 (by first | exact q321 | exact odA | (have e_ := (Kd.S_reads' HO_3.out).1; omega))
            obtain ⟨ve321_0, rfl, ge321_0⟩ := hMe321
            have hv321_0 := hcc321 0 _ rfl
            rw [Nat.add_zero, show ((Kd.slice 3 (Kd.int .i64))).sz = 1 from rfl, Nat.mul_one] at hv321_0
            replace hv321_0 := Option.some.inj (hv321_0.symm.trans hx321_0)
            rw [hv321_0] at ge321_0
            have HL321_0 := Aside0.mk (show Kd.R (Kd.int .i64) 3 _ _ _ _ (rd_L14 t317 x5_1) from ge321_0)
            clear hv321_0 ge321_0
            clear hcc321 hce321
            have HR321_0 := Aside0.mk hi321_0
            have HC321_0 := Aside0.mk hl321_0
            clear hi321_0 hl321_0
            replace p321 := eq_true p321
            replace q321 := eq_true q321
            have ea_ := Option.some.inj (hx320_0.symm.trans hx321_0)
            injection ea_ with ea_ en_ ec_
            subst ea_
            subst ec_
            clear en_
            have p322 : 0 ≤ (x7_2 : Int) := odA
            have q322 : x7_2 < ((rd_L14 t317 x5_1).length : Int) := odA
            obtain ⟨ad322, e322, hx322_0⟩ := Kd.at_int (by repeat (first | (with_reducible exact HR321_0.out) | (with_reducible refine Kd.C_alloc ?_ _) | (with_reducible refine Kd.C_drewN ?_ _) | (with_reducible refine Kd.C_drew ?_) | exact HR321_0.out)) x7_2 p322 q322
            cases e322
            replace p322 := eq_true p322
            replace q322 := eq_true q322
            go_wp2_with (first | ((with_reducible refine gate_callee (f := 100) rfl ?_); refine goesA (some 37) Tryz.func100 #[.int .i64 (rd (rd_L14 t317 x5_1) x7_2)] ?_; (with_reducible refine (caduceusref02_Bytes.calls (rd (rd_L14 t317 x5_1) x7_2) t323 _ A16.out).mono ?_); rintro e w18 ⟨rfl, hb⟩; refine ⟨_, rfl, ?_⟩; have n0_ := Aside0.mk (Kd.S_below (by (with_reducible repeat (first | apply Kd.S_alloc | apply Kd.S_drewN | apply Kd.S_drew)); exact HO_3.out) hb); have n1_ := Aside0.mk (Kd.R_below (by (with_reducible repeat (first | apply Kd.R_alloc | apply Kd.R_drewN | apply Kd.R_drew)); exact HO_4.out) hb); have n2_ := Aside0.mk (Kd.R_below (by (with_reducible repeat (first | apply Kd.R_alloc | apply Kd.R_drewN | apply Kd.R_drew)); exact HL320_0.out) hb); have n3_ := Aside0.mk (Kd.R_below (by (with_reducible repeat (first | apply Kd.R_alloc | apply Kd.R_drewN | apply Kd.R_drew)); exact HL321_0.out) hb); have n4_ := Aside0.mk (Kd.C_below (by repeat (first | (with_reducible exact HR320_0.out) | (with_reducible refine Kd.C_alloc ?_ _) | (with_reducible refine Kd.C_drewN ?_ _) | (with_reducible refine Kd.C_drew ?_) | exact HR320_0.out)) hb); have n5_ := Aside0.mk (Kd.C_below (by repeat (first | (with_reducible exact HR321_0.out) | (with_reducible refine Kd.C_alloc ?_ _) | (with_reducible refine Kd.C_drewN ?_ _) | (with_reducible refine Kd.C_drew ?_) | exact HR321_0.out)) hb); have n6_ := Aside0.mk (below_step (bwA) hb); clear HO_3; clear HO_4; clear HL320_0; clear HL321_0; clear HR320_0; clear HR321_0; clear HB; have HO_3 := n0_; have HO_4 := n1_; have HL320_0 := n2_; have HL321_0 := n3_; have HR320_0 := n4_; have HR321_0 := n5_; have HB := n6_; clear n0_ n1_ n2_ n3_ n4_ n5_ n6_; (try clear hb); (try clear hb2); (try clear hk); (try clear hi)))
            go_roundg k2
            case measure => have := HK1.out; have := HK2.out; omega
            case rel => exact ⟨(x6_2 ++ t323), (wrap64 (x7_2 + 1)), (endS), (endS), H', ⟨by have := HK1.out; have := HK2.out; omega⟩, ⟨by (with_reducible repeat (first | apply Kd.S_alloc | apply Kd.S_drewN | apply Kd.S_drew)); exact HO_3.out⟩, ⟨by (with_reducible repeat (first | apply Kd.R_alloc | apply Kd.R_drewN | apply Kd.R_drew)); exact HO_4.out⟩, ⟨bwA⟩⟩
           ·rw [if_neg c17] at H
            exact absurd H (by simp)
          ·rw [if_neg c15] at H
           exact absurd H (by simp)
         ·rw [if_neg c14] at H
          have c14b0 : decide (x7_2 < ((rd_L14 t317 x5_1).length : Int)) = false := decide_eq_false c14
          clear c14
          by_cases c19 : x4_1.length < 8796093022208
          ·rw [if_pos c19] at H
           have LMc19 := Aside0.mk c19
           clear c19
           obtain ⟨y324, hy324⟩ : ∃ y_ : List ByteArray, y_ = (x4_1 ++ [x6_2]) := ⟨_, rfl⟩
           replace H : (caduceusref02_Parts.l0 k2 t317 y324 (wrap64 (x5_1 + 1))) = some r := by first | (rw [hy324]; with_reducible exact H) | (have H2_ := (Option.bind_some _ _).symm.trans H; rw [hy324]; with_reducible exact H2_) | (have H2_ := (Option.bind_some _ _).symm.trans H; with_reducible exact H2_) | with_reducible exact H | (rw [hy324]; exact H) | exact H
           have Ny324 := Aside0.mk hy324
           clear hy324
           have H' := Aside0.mk H
           clear H
           have p320 : 0 ≤ (x5_1 : Int) := odA
           have q320 : x5_1 < (t317.length : Int) := odA
           obtain ⟨ad320, A320_0, c320_0, e320, hx320_0, hl320_0, hi320_0⟩ := at_L14 (Kd.S_reads' HO_3.out).2.2 x5_1 p320 q320
           cases e320
           obtain ⟨ce320, hce320, hMe320, hcc320⟩ := Kd.S_get HO_3.out [] x5_1 p320 (by first | exact q320 | exact odA | (have e_ := (Kd.S_reads' HO_3.out).1; omega))
           obtain ⟨ve320_0, rfl, ge320_0⟩ := hMe320
           have hv320_0 := hcc320 0 _ rfl
           rw [Nat.add_zero, show ((Kd.slice 3 (Kd.int .i64))).sz = 1 from rfl, Nat.mul_one] at hv320_0
           replace hv320_0 := Option.some.inj (hv320_0.symm.trans hx320_0)
           rw [hv320_0] at ge320_0
           have HL320_0 := Aside0.mk (show Kd.R (Kd.int .i64) 3 _ _ _ _ (rd_L14 t317 x5_1) from ge320_0)
           clear hv320_0 ge320_0
           clear hcc320 hce320
           have HR320_0 := Aside0.mk hi320_0
           have HC320_0 := Aside0.mk hl320_0
           clear hi320_0 hl320_0
           replace p320 := eq_true p320
           replace q320 := eq_true q320
           go_wp2_with (first | ((with_reducible refine gate_builtin (b := .append) (xs := #[.tmp 39, .tmp 41]) rfl ?_); at_builtin; refine Kd.R_append Kd.string (w0 := w) w.heap.size rfl (.tmp 39) (.tmp 41) 85 9 (.string ⟨#[]⟩) 16 rfl Tryz.underlying85 info9 rfl (by decide) (by omega) u4 x4_1 x6_2 [.string x6_2] (fun _ => True) (fun _ => False) rfl rfl ?aP (fun _ hk => hk.elim) ?aF ?aO ?aB ?aS ?aL ?_; (case aP => exact rfl); (case aB => exact (bwA)); (case aF => exact (fun _ _ => trivial)); (case aO => exact (by (with_reducible repeat (first | apply Kd.R_alloc | apply Kd.R_drewN | apply Kd.R_drew)); exact HO_4.out)); (case aS => exact (below_size (bwA))); (case aL => have := LMc19.out; omega); intro v325 w20 ho hb hg hat; rw [← Ny324.out] at ho; have n0_ := Aside0.mk (Kd.S_over' (by (with_reducible repeat (first | apply Kd.S_alloc | apply Kd.S_drewN | apply Kd.S_drew)); exact HO_3.out) (Kd.R_typed (by (with_reducible repeat (first | apply Kd.R_alloc | apply Kd.R_drewN | apply Kd.R_drew)); exact HO_4.out)) (by decide) hg); have n1_ := Aside0.mk (Kd.R_over' (by (with_reducible repeat (first | apply Kd.R_alloc | apply Kd.R_drewN | apply Kd.R_drew)); exact HL320_0.out) (Kd.R_typed (by (with_reducible repeat (first | apply Kd.R_alloc | apply Kd.R_drewN | apply Kd.R_drew)); exact HO_4.out)) (by decide) hg); have n2_ := Aside0.mk (hb); have n3_ := Aside0.mk (ho); clear HO_3; clear HL320_0; clear HB; clear HO_4; have HO_3 := n0_; have HL320_0 := n1_; have HB := n2_; have HO326 := n3_; clear n0_ n1_ n2_ n3_; clear ho hb hg hat))
           go_roundg k2
           case measure => have := HK1.out; have := HK2.out; omega
           case rel => exact ⟨(y324), (wrap64 (x5_1 + 1)), (endS), H', ⟨by have := HK1.out; have := HK2.out; omega⟩, ⟨by (with_reducible repeat (first | apply Kd.S_alloc | apply Kd.S_drewN | apply Kd.S_drew)); exact HO_3.out⟩, ⟨by (with_reducible repeat (first | apply Kd.R_alloc | apply Kd.R_drewN | apply Kd.R_drew)); exact HO326.out⟩, ⟨bwA⟩⟩
          ·rw [if_neg c19] at H
           exact absurd H (by simp)
        ·rw [if_neg c13] at H
         exact absurd H (by simp)
       ·rw [if_neg c12] at H
        exact absurd H (by simp)
    ·rw [if_neg c10] at H
     have c10b0 : decide (x5_1 < (t317.length : Int)) = false := decide_eq_false c10
     clear c10
     obtain rfl := Option.some.inj H
     obtain ⟨Ao21, co21, eo21⟩ := Kd.S_slice HO_3.out
     subst eo21
     go_wp2
     go_ret
     exact ⟨_, endA, by (with_reducible repeat (first | apply Kd.R_alloc | apply Kd.R_drewN | apply Kd.R_drew)); exact HO_4.out, bwA⟩
 ·rw [if_neg c3] at H
  have c3b0 : (t313 == 0) = false := beq_eq_false_iff_ne.mpr c3
  have c3b1 : (t313 != 0) = true := bne_iff_ne.mpr c3
  obtain rfl := Option.some.inj H
  go_enter Tryz.func86, Tryz.ntmps86
  go_wp2_with (first | ((with_reducible refine gate_callee (f := 85) rfl ?_); refine goesA (some 9) Tryz.func85 #[.string a0] ?_; (with_reducible refine (caduceusref02_Check.calls k a0 t313 _ A2.out).mono ?_); rintro e w22 ⟨rfl, hb⟩; refine ⟨_, rfl, ?_⟩; have n0_ := Aside0.mk (below_step (bwA) hb); clear HB; have HB := n0_; clear n0_; (try clear hb); (try clear hb2); (try clear hk); (try clear hi)))
  go_ret
  exact ⟨_, endA, by first | exact Kd.R_nil _ _ _ _ _ | exact Kd.N_nil _ _ _ _ _ | exact Kd.V_nil _ _ _ _ _ | exact Kd.Q_nil _ _ _ _ _ | exact Kd.S_nil _ _ _ _ _, bwA⟩

/-! ### caduceusref04_Simple: function 53 -/
def caduceusref04_Simple.f (k : Nat) (a0 : ByteArray) : Option (Bool) := (caduceusref02_Check.f k a0).bind fun t327 => (if t327 = 0 then ((caduceusref02_Parts.f k a0).bind fun t328 => (some ((t328.length : Int) == 1))) else (some false))
theorem caduceusref04_Simple.mono : ∀ a0 k, LeO (caduceusref04_Simple.f k a0) (caduceusref04_Simple.f (k + 1) a0) := by
 intro a0 k
 unfold caduceusref04_Simple.f
 repeat' first
   | (with_reducible exact caduceusref02_Check.mono _ _)
   | (with_reducible exact caduceusref02_Parts.mono _ _)
   | (with_reducible exact LeO.refl _)
   | (with_reducible exact LeO.none _)
   | (with_reducible refine LeO.ite ?_ ?_)
   | (with_reducible refine LeO.bind ?_ (fun _ => ?_))
   | exact caduceusref02_Check.mono _ _
   | exact caduceusref02_Parts.mono _ _
   | exact LeO.none _
   | refine LeO.ite ?_ ?_
   | refine LeO.bind ?_ (fun _ => ?_)
set_option maxHeartbeats 8000000 in
set_option maxRecDepth 100000 in
theorem caduceusref04_Simple.calls (k : Nat) (a0 : ByteArray) (r : Bool) (w : World) (h : caduceusref04_Simple.f k a0 = some r) :
  Calls Tryz.prog 53 #[.string a0] w fun e w' => e = .returned (.bool r) ∧ Below w.heap.size w w' := by
 have HB := Aside0.mk (Below.refl w.heap.size w)
 have H : ((caduceusref02_Check.f k a0).bind fun t327 => (if t327 = 0 then ((caduceusref02_Parts.f k a0).bind fun t328 => (some ((t328.length : Int) == 1))) else (some false))) = some r := h
 clear h
 replace H := Option.bind_eq_some_iff.mp H
 obtain ⟨t327, A20, H⟩ := H
 replace H : (if t327 = 0 then ((caduceusref02_Parts.f k a0).bind fun t328 => (some ((t328.length : Int) == 1))) else (some false)) = some r := H
 have A2 := Aside0.mk A20
 clear A20
 by_cases c3 : t327 = 0
 ·rw [if_pos c3] at H
  have c3b0 : (t327 == 0) = true := beq_iff_eq.mpr c3
  have c3b1 : (t327 != 0) = false := bne_eq_false_iff_eq.mpr c3
  clear c3
  replace H := Option.bind_eq_some_iff.mp H
  obtain ⟨t328, A40, H⟩ := H
  replace H : (some ((t328.length : Int) == 1)) = some r := H
  have A4 := Aside0.mk A40
  clear A40
  obtain rfl := Option.some.inj H
  go_enter Tryz.func53, Tryz.ntmps53
  go_wp2_with (first | ((with_reducible refine gate_callee (f := 85) rfl ?_); refine goesA (some 4) Tryz.func85 #[.string a0] ?_; (with_reducible refine (caduceusref02_Check.calls k a0 t327 _ A2.out).mono ?_); rintro e w5 ⟨rfl, hb⟩; refine ⟨_, rfl, ?_⟩; have n0_ := Aside0.mk (below_step (bwA) hb); clear HB; have HB := n0_; clear n0_; (try clear hb); (try clear hb2); (try clear hk); (try clear hi)) | (go_at_call 86; (with_reducible refine (caduceusref02_Parts.calls k a0 t328 _ A4.out).mono ?_); rintro e w6 ⟨v329, rfl, ho0, hb⟩; have n0_ := Aside0.mk (Kd.R_lower ho0 (below_size (bwA))); have n1_ := Aside0.mk (below_step (bwA) hb); clear HB; have HO330 := n0_; have HB := n1_; clear n0_ n1_; (try clear hb); (try clear hb2); (try clear hk); (try clear hi); (try clear ho0); obtain ⟨Ao7, co7, eo7⟩ := Kd.R_slice HO330.out; subst eo7))
  go_ret
  exact ⟨endA, bwA⟩
 ·rw [if_neg c3] at H
  have c3b0 : (t327 == 0) = false := beq_eq_false_iff_ne.mpr c3
  have c3b1 : (t327 != 0) = true := bne_iff_ne.mpr c3
  obtain rfl := Option.some.inj H
  go_enter Tryz.func53, Tryz.ntmps53
  go_wp2_with (first | ((with_reducible refine gate_callee (f := 85) rfl ?_); refine goesA (some 4) Tryz.func85 #[.string a0] ?_; (with_reducible refine (caduceusref02_Check.calls k a0 t327 _ A2.out).mono ?_); rintro e w8 ⟨rfl, hb⟩; refine ⟨_, rfl, ?_⟩; have n0_ := Aside0.mk (below_step (bwA) hb); clear HB; have HB := n0_; clear n0_; (try clear hb); (try clear hb2); (try clear hk); (try clear hi)))
  go_ret
  exact ⟨endA, bwA⟩

/-! ### caduceusref04_may: function 42 -/
def caduceusref04_may.f (k : Nat) (a0_0 : ByteArray) (a0_1 : Int) (a0_2 : Bool) : Option (Bool) := (caduceusref04_Simple.f k a0_0).bind fun t332 => (if t332 = true then (if a0_1 ≥ 1 then (some (decide (a0_1 ≤ 4))) else (some false)) else (some false))
theorem caduceusref04_may.mono : ∀ a0 a1 a2 k, LeO (caduceusref04_may.f k a0 a1 a2) (caduceusref04_may.f (k + 1) a0 a1 a2) := by
 intro a0 a1 a2 k
 unfold caduceusref04_may.f
 repeat' first
   | (with_reducible exact caduceusref04_Simple.mono _ _)
   | (with_reducible exact LeO.refl _)
   | (with_reducible exact LeO.none _)
   | (with_reducible refine LeO.ite ?_ ?_)
   | (with_reducible refine LeO.bind ?_ (fun _ => ?_))
   | exact caduceusref04_Simple.mono _ _
   | exact LeO.none _
   | refine LeO.ite ?_ ?_
   | refine LeO.bind ?_ (fun _ => ?_)
set_option maxHeartbeats 8000000 in
set_option maxRecDepth 100000 in
theorem caduceusref04_may.calls (k : Nat) (a0_0 : ByteArray) (a0_1 : Int) (a0_2 : Bool) (r : Bool) (w : World) (h : caduceusref04_may.f k a0_0 a0_1 a0_2 = some r) :
  Calls Tryz.prog 42 #[.agg #[.string a0_0, .int .i64 a0_1, .bool a0_2]] w fun e w' => e = .returned (.bool r) ∧ Below w.heap.size w w' := by
 have hu72 := Tryz.underlying72
 have HB := Aside0.mk (Below.refl w.heap.size w)
 have H : ((caduceusref04_Simple.f k a0_0).bind fun t332 => (if t332 = true then (if a0_1 ≥ 1 then (some (decide (a0_1 ≤ 4))) else (some false)) else (some false))) = some r := h
 clear h
 replace H := Option.bind_eq_some_iff.mp H
 obtain ⟨t332, A20, H⟩ := H
 replace H : (if t332 = true then (if a0_1 ≥ 1 then (some (decide (a0_1 ≤ 4))) else (some false)) else (some false)) = some r := H
 have A2 := Aside0.mk A20
 clear A20
 by_cases c3 : t332 = true
 ·subst c3
  have H1 : (if a0_1 ≥ 1 then (some (decide (a0_1 ≤ 4))) else (some false)) = some r := by rw [if_pos rfl] at H; exact H
  clear H
  have H := H1
  clear H1
  by_cases c4 : a0_1 ≥ 1
  ·rw [if_pos c4] at H
   have c4b0 : decide (1 ≤ a0_1) = true := decide_eq_true c4
   clear c4
   obtain rfl := Option.some.inj H
   go_enter Tryz.func42, Tryz.ntmps42
   go_wp2_with (first | ((with_reducible refine gate_dst (N := 1) rfl ?_); refine box_event ?hg (N := 1) ?hd (cs := #[.string a0_0, .int .i64 a0_1, .bool a0_2]) (t := 72) ?hr ?_; (case hd => rfl); (case hg => rfl); (case hr => first | (go_simp; done) | (go_simp; rfl)); intro gb331 hg w5 hbox hb; have n0_ := Aside0.mk (below_step (bwA) hb); have n1_ := Aside0.mk (hbox); have n2_ := Aside0.mk ((by rw [hg]; exact (below_size (bwA)) : w.heap.size ≤ gb331)); have n3_ := Aside0.mk ((by rw [hg]; exact (below_size (bwA)) : w.heap.size ≤ gb331)); clear HB; have HB := n0_; have BK331 := n1_; have GW331 := n2_; have GE331 := n3_; clear n0_ n1_ n2_ n3_; clear hb hbox hg; have hcz6_0 : w5.cell? ⟨gb331, 0, none⟩ = some (.string a0_0) := (blk_cell BK331.out 0).trans rfl; have hcz6_1 : w5.cell? ⟨gb331, 1, none⟩ = some (.int .i64 a0_1) := (blk_cell BK331.out 1).trans rfl; have hcz6_2 : w5.cell? ⟨gb331, 2, none⟩ = some (.bool a0_2) := (blk_cell BK331.out 2).trans rfl; have hfz6_0 := blk_frozen BK331.out 0; have hfz6_1 := blk_frozen BK331.out 1; have hfz6_2 := blk_frozen BK331.out 2) | ((with_reducible refine gate_callee (f := 53) rfl ?_); refine goesA (some 5) Tryz.func53 #[.string a0_0] ?_; (with_reducible refine (caduceusref04_Simple.calls k a0_0 true _ A2.out).mono ?_); rintro e w7 ⟨rfl, hb⟩; refine ⟨_, rfl, ?_⟩; have n0_ := Aside0.mk (blk_below (g := gb331) (o := .cells #[.string a0_0, .int .i64 a0_1, .bool a0_2] 72 (0, 0)) blkA hb); have n1_ := Aside0.mk (below_step (bwA) hb); clear BK331; clear HB; have BK331 := n0_; have HB := n1_; clear n0_ n1_; (try clear hb); (try clear hb2); (try clear hk); (try clear hi); have hcz8_0 : w7.cell? ⟨gb331, 0, none⟩ = some (.string a0_0) := (blk_cell BK331.out 0).trans rfl; have hcz8_1 : w7.cell? ⟨gb331, 1, none⟩ = some (.int .i64 a0_1) := (blk_cell BK331.out 1).trans rfl; have hcz8_2 : w7.cell? ⟨gb331, 2, none⟩ = some (.bool a0_2) := (blk_cell BK331.out 2).trans rfl; have hfz8_0 := blk_frozen BK331.out 0; have hfz8_1 := blk_frozen BK331.out 1; have hfz8_2 := blk_frozen BK331.out 2))
   go_ret
   exact ⟨endA, bwA⟩
  ·rw [if_neg c4] at H
   have c4b0 : decide (1 ≤ a0_1) = false := decide_eq_false c4
   clear c4
   obtain rfl := Option.some.inj H
   go_enter Tryz.func42, Tryz.ntmps42
   go_wp2_with (first | ((with_reducible refine gate_dst (N := 1) rfl ?_); refine box_event ?hg (N := 1) ?hd (cs := #[.string a0_0, .int .i64 a0_1, .bool a0_2]) (t := 72) ?hr ?_; (case hd => rfl); (case hg => rfl); (case hr => first | (go_simp; done) | (go_simp; rfl)); intro gb331 hg w9 hbox hb; have n0_ := Aside0.mk (below_step (bwA) hb); have n1_ := Aside0.mk (hbox); have n2_ := Aside0.mk ((by rw [hg]; exact (below_size (bwA)) : w.heap.size ≤ gb331)); have n3_ := Aside0.mk ((by rw [hg]; exact (below_size (bwA)) : w.heap.size ≤ gb331)); clear HB; have HB := n0_; have BK331 := n1_; have GW331 := n2_; have GE331 := n3_; clear n0_ n1_ n2_ n3_; clear hb hbox hg; have hcz10_0 : w9.cell? ⟨gb331, 0, none⟩ = some (.string a0_0) := (blk_cell BK331.out 0).trans rfl; have hcz10_1 : w9.cell? ⟨gb331, 1, none⟩ = some (.int .i64 a0_1) := (blk_cell BK331.out 1).trans rfl; have hcz10_2 : w9.cell? ⟨gb331, 2, none⟩ = some (.bool a0_2) := (blk_cell BK331.out 2).trans rfl; have hfz10_0 := blk_frozen BK331.out 0; have hfz10_1 := blk_frozen BK331.out 1; have hfz10_2 := blk_frozen BK331.out 2) | ((with_reducible refine gate_callee (f := 53) rfl ?_); refine goesA (some 5) Tryz.func53 #[.string a0_0] ?_; (with_reducible refine (caduceusref04_Simple.calls k a0_0 true _ A2.out).mono ?_); rintro e w11 ⟨rfl, hb⟩; refine ⟨_, rfl, ?_⟩; have n0_ := Aside0.mk (blk_below (g := gb331) (o := .cells #[.string a0_0, .int .i64 a0_1, .bool a0_2] 72 (0, 0)) blkA hb); have n1_ := Aside0.mk (below_step (bwA) hb); clear BK331; clear HB; have BK331 := n0_; have HB := n1_; clear n0_ n1_; (try clear hb); (try clear hb2); (try clear hk); (try clear hi); have hcz12_0 : w11.cell? ⟨gb331, 0, none⟩ = some (.string a0_0) := (blk_cell BK331.out 0).trans rfl; have hcz12_1 : w11.cell? ⟨gb331, 1, none⟩ = some (.int .i64 a0_1) := (blk_cell BK331.out 1).trans rfl; have hcz12_2 : w11.cell? ⟨gb331, 2, none⟩ = some (.bool a0_2) := (blk_cell BK331.out 2).trans rfl; have hfz12_0 := blk_frozen BK331.out 0; have hfz12_1 := blk_frozen BK331.out 1; have hfz12_2 := blk_frozen BK331.out 2))
   go_ret
   exact ⟨endA, bwA⟩
 ·replace c3 := Bool.eq_false_iff.mpr c3
  subst c3
  have H1 : (some false) = some r := by rw [if_neg (show ¬ (false = true) by decide)] at H; exact H
  clear H
  have H := H1
  clear H1
  obtain rfl := Option.some.inj H
  go_enter Tryz.func42, Tryz.ntmps42
  go_wp2_with (first | ((with_reducible refine gate_dst (N := 1) rfl ?_); refine box_event ?hg (N := 1) ?hd (cs := #[.string a0_0, .int .i64 a0_1, .bool a0_2]) (t := 72) ?hr ?_; (case hd => rfl); (case hg => rfl); (case hr => first | (go_simp; done) | (go_simp; rfl)); intro gb331 hg w13 hbox hb; have n0_ := Aside0.mk (below_step (bwA) hb); have n1_ := Aside0.mk (hbox); have n2_ := Aside0.mk ((by rw [hg]; exact (below_size (bwA)) : w.heap.size ≤ gb331)); have n3_ := Aside0.mk ((by rw [hg]; exact (below_size (bwA)) : w.heap.size ≤ gb331)); clear HB; have HB := n0_; have BK331 := n1_; have GW331 := n2_; have GE331 := n3_; clear n0_ n1_ n2_ n3_; clear hb hbox hg; have hcz14_0 : w13.cell? ⟨gb331, 0, none⟩ = some (.string a0_0) := (blk_cell BK331.out 0).trans rfl; have hcz14_1 : w13.cell? ⟨gb331, 1, none⟩ = some (.int .i64 a0_1) := (blk_cell BK331.out 1).trans rfl; have hcz14_2 : w13.cell? ⟨gb331, 2, none⟩ = some (.bool a0_2) := (blk_cell BK331.out 2).trans rfl; have hfz14_0 := blk_frozen BK331.out 0; have hfz14_1 := blk_frozen BK331.out 1; have hfz14_2 := blk_frozen BK331.out 2) | ((with_reducible refine gate_callee (f := 53) rfl ?_); refine goesA (some 5) Tryz.func53 #[.string a0_0] ?_; (with_reducible refine (caduceusref04_Simple.calls k a0_0 false _ A2.out).mono ?_); rintro e w15 ⟨rfl, hb⟩; refine ⟨_, rfl, ?_⟩; have n0_ := Aside0.mk (blk_below (g := gb331) (o := .cells #[.string a0_0, .int .i64 a0_1, .bool a0_2] 72 (0, 0)) blkA hb); have n1_ := Aside0.mk (below_step (bwA) hb); clear BK331; clear HB; have BK331 := n0_; have HB := n1_; clear n0_ n1_; (try clear hb); (try clear hb2); (try clear hk); (try clear hi)))
  go_ret
  exact ⟨endA, bwA⟩

/-! ### caduceusref02_Compare: function 44, by hand -/
/-- How two rows of numbers stand. -/
def cmpI : List Int → List Int → Int
 | [], [] => 0
 | [], _ :: _ => -1
 | _ :: _, [] => 1
 | a :: x, b :: y => if a < b then -1 else if b < a then 1 else cmpI x y
def caduceusref02_Compare.f (k : Nat) (a0 : ByteArray) (a1 : ByteArray) : Option Int := (caduceusref02_Fold.f k a0).bind fun x => (caduceusref02_Fold.f k a1).bind fun y => (caduceusref02_Valid.f k x).bind fun u => (caduceusref02_Valid.f k y).bind fun v => if u = true then (if v = true then (caduceusref02_Runes.f k x).bind fun l => (caduceusref02_Runes.f k y).bind fun m => some (cmpI l m) else none) else none
theorem caduceusref02_Compare.mono : ∀ a0 a1 k, LeO (caduceusref02_Compare.f k a0 a1) (caduceusref02_Compare.f (k + 1) a0 a1) := by
 intro a0 a1 k
 unfold caduceusref02_Compare.f
 repeat' first
  | (with_reducible exact LeO.refl _)
  | (with_reducible exact LeO.none _)
  | (with_reducible exact caduceusref02_Fold.mono _ _)
  | (with_reducible exact caduceusref02_Valid.mono _ _)
  | (with_reducible exact caduceusref02_Runes.mono _ _)
  | (with_reducible refine LeO.ite ?_ ?_)
  | (with_reducible refine LeO.bind ?_ (fun _ => ?_))
theorem cmpI_drop (l m : List Int) (i : Nat) (hi : i < l.length) (hm : i < m.length) : cmpI (l.drop i) (m.drop i) = if l[i] < m[i] then -1 else if m[i] < l[i] then 1 else cmpI (l.drop (i + 1)) (m.drop (i + 1)) := by
 rw [List.drop_eq_getElem_cons hi, List.drop_eq_getElem_cons hm, cmpI]
theorem cmpI_end (l m : List Int) (i : Nat) (h1 : i ≤ l.length) (h2 : i ≤ m.length) (h : ¬ (i < l.length ∧ i < m.length)) : cmpI (l.drop i) (m.drop i) = if l.length < m.length then -1 else if m.length < l.length then 1 else 0 := by
 by_cases c1 : i < l.length
 ·have c2 : i = m.length := by omega
  rw [List.drop_eq_getElem_cons c1, List.drop_of_length_le (show m.length ≤ i by omega), if_neg (by omega), if_pos (by omega), cmpI]
 ·by_cases c2 : i < m.length
  ·rw [List.drop_eq_getElem_cons c2, List.drop_of_length_le (show l.length ≤ i by omega), if_pos (by omega), cmpI]
  ·rw [List.drop_of_length_le (show l.length ≤ i by omega), List.drop_of_length_le (show m.length ≤ i by omega), if_neg (by omega), if_neg (by omega), cmpI]
set_option maxHeartbeats 8000000 in
set_option maxRecDepth 100000 in
theorem caduceusref02_Compare.calls (k : Nat) (a0 : ByteArray) (a1 : ByteArray) (r : Int) (w : World) (h : caduceusref02_Compare.f k a0 a1 = some r) :
  Calls Tryz.prog 44 #[.string a0, .string a1] w fun e w' => e = .returned (.int .i64 r) ∧ Below w.heap.size w w' := by
 unfold caduceusref02_Compare.f at h
 obtain ⟨x, hx, h⟩ := Option.bind_eq_some_iff.1 h
 obtain ⟨y, hy, h⟩ := Option.bind_eq_some_iff.1 h
 obtain ⟨u, hu, h⟩ := Option.bind_eq_some_iff.1 h
 obtain ⟨v, hv, h⟩ := Option.bind_eq_some_iff.1 h
 cases u with
 | false => simp at h
 | true =>
  cases v with
  | false => simp at h
  | true =>
   rw [if_pos rfl, if_pos rfl] at h
   obtain ⟨l, hl, h⟩ := Option.bind_eq_some_iff.1 h
   obtain ⟨m, hm, h⟩ := Option.bind_eq_some_iff.1 h
   have hr := Option.some.inj h
   have cX := fun W => caduceusref02_Fold.calls k a0 x W hx
   have cY := fun W => caduceusref02_Fold.calls k a1 y W hy
   have cU := fun W => caduceusref02_Valid.calls k x true W hu
   have cV := fun W => caduceusref02_Valid.calls k y true W hv
   have cL := fun W => caduceusref02_Runes.calls k x l W hl
   have cM := fun W => caduceusref02_Runes.calls k y m W hm
   have HR := Aside0.mk hr
   clear h hx hy hu hv hl hm hr
   go_enter Tryz.func44, Tryz.ntmps44
   go_wp2_with (first | (go_at_call_of 75 (Value.string a0); refine (cX _).mono ?_; rintro e w1 ⟨rfl, hb1⟩) | (go_at_call_of 75 (Value.string a1); refine (cY _).mono ?_; rintro e w2 ⟨rfl, hb2⟩; have hB2 := hb1.trans (hb2.mono hb1.size)) | (go_at_call_of 76 (Value.string x); refine (cU _).mono ?_; rintro e w3 ⟨rfl, hb3⟩; have hB3 := hB2.trans (hb3.mono hB2.size)) | (go_at_call_of 76 (Value.string y); refine (cV _).mono ?_; rintro e w4 ⟨rfl, hb4⟩; have hB4 := hB3.trans (hb4.mono hB3.size)) | (go_at_call_of 77 (Value.string x); refine (cL _).mono ?_; rintro e w5 ⟨vl, rfl, hR5, hb5⟩; have hB5 := hB4.trans (hb5.mono hB4.size); obtain ⟨Al, cl, rfl, _, hC5⟩ := Kd.R_reads hR5; clear hR5) | (go_at_call_of 77 (Value.string y); refine (cM _).mono ?_; rintro e w6 ⟨vm, rfl, hR6, hb6⟩; have hB6 := hB5.trans (hb6.mono hB5.size); obtain ⟨Am, cm, rfl, _, hC6⟩ := Kd.R_reads hR6; clear hR6; have hC7 := Kd.C_below hC5 hb6))
   clear cX cY cU cV cL cM hb1 hb2 hb3 hb4 hb5 hb6 hC5
   have hll : l.length ≤ 9223372036854775807 := hC7.2.1
   have hml : m.length ≤ 9223372036854775807 := hC6.2.1
   have HC6 := Aside0.mk hC6
   have HC7 := Aside0.mk hC7
   clear hC6 hC7
   go_loopg [11] l.length (fun gg v11 wr => ∃ i : Nat, i ≤ l.length ∧ i ≤ m.length ∧ l.length - i ≤ gg ∧ v11 = .int .i64 i ∧ Aside (Below w6.heap.size w6 wr) ∧ Aside (cmpI (l.drop i) (m.drop i) = r))
   case atStart => exact ⟨0, Nat.zero_le _, Nat.zero_le _, by omega, rfl, Below.refl _ _, by have := HR.out; exact this⟩
   case round =>
    obtain ⟨i, hi1, hi2, hg, rfl, BW, A⟩ := hrel
    have h6 := BW.out
    have hB : Below w.heap.size w wr := hB6.trans (h6.mono hB6.size)
    clear BW
    by_cases hl1 : i < l.length
    ·have hlz : (i : Int) < (l.length : Int) := by omega
     by_cases hm1 : i < m.length
     ·have hmz : (i : Int) < (m.length : Int) := by omega
      obtain ⟨bl, ol, rfl, _, hcl⟩ := Kd.C_addr (Kd.C_below HC7.out h6) (by omega) (by decide)
      obtain ⟨bm, om, rfl, _, hcm⟩ := Kd.C_addr (Kd.C_below HC6.out h6) (by omega) (by decide)
      have z1 : wr.cell? ⟨bl, ol + i, none⟩ = some (.int .i64 l[i]) := by
       obtain ⟨cs, c1, c2, c3⟩ := hcl i l[i] (List.getElem?_eq_getElem hl1)
       have e : cs = [.int .i64 l[i]] := c2
       have := c3 0 (.int .i64 l[i]) (by rw [e]; rfl)
       simpa [Kd.int, Kd.scalar] using this
      have z2 : wr.cell? ⟨bm, om + i, none⟩ = some (.int .i64 m[i]) := by
       obtain ⟨cs, c1, c2, c3⟩ := hcm i m[i] (List.getElem?_eq_getElem hm1)
       have e : cs = [.int .i64 m[i]] := c2
       have := c3 0 (.int .i64 m[i]) (by rw [e]; rfl)
       simpa [Kd.int, Kd.scalar] using this
      have hA := A.out
      rw [cmpI_drop l m i hl1 hm1] at hA
      generalize l[i] = p at z1 hA
      generalize m[i] = q at z2 hA
      clear hcl hcm A
      have hpos : (0 : Int) ≤ (i : Int) := by omega
      by_cases h1 : p < q
      ·rw [if_pos h1] at hA
       subst hA
       go_wp2
       go_quiet (fail)
       go_wp2
       go_ret
       exact ⟨rfl, by repeat (first | exact hB | apply pw_below_drewN)⟩
      ·rw [if_neg h1] at hA
       by_cases h2 : q < p
       ·rw [if_pos h2] at hA
        subst hA
        go_wp2
        go_quiet (fail)
        go_wp2
        go_quiet (fail)
        go_wp2
        go_ret
        exact ⟨rfl, by repeat (first | exact hB | apply pw_below_drewN)⟩
       ·rw [if_neg h2] at hA
        have HA := Aside0.mk hA
        clear hA
        go_wp2
        go_quiet (fail)
        go_wp2
        go_quiet (fail)
        go_wp2
        go_roundg (l.length - (i + 1))
        case measure => omega
        case rel => exact ⟨i + 1, by omega, by omega, by omega, by go_num, (by repeat (first | exact h6 | apply pw_below_drewN)), HA.out⟩
     ·have hmz : ¬ (i : Int) < (m.length : Int) := by omega
      have hA := A.out
      rw [cmpI_end l m i hi1 hi2 (by omega), if_neg (by omega), if_pos (by omega)] at hA
      subst hA
      have k1 : ¬ (l.length : Int) < (m.length : Int) := by omega
      have k2 : (m.length : Int) < (l.length : Int) := by omega
      clear A
      go_wp2
      go_ret
      exact ⟨rfl, hB⟩
    ·have hlz : ¬ (i : Int) < (l.length : Int) := by omega
     have hA := A.out
     rw [cmpI_end l m i hi1 hi2 (by omega)] at hA
     clear A
     by_cases c1 : l.length < m.length
     ·rw [if_pos c1] at hA
      subst hA
      have k1 : (l.length : Int) < (m.length : Int) := by omega
      go_wp2
      go_ret
      exact ⟨rfl, hB⟩
     ·rw [if_neg c1, if_neg (by omega)] at hA
      subst hA
      have k1 : ¬ (l.length : Int) < (m.length : Int) := by omega
      have k2 : ¬ (m.length : Int) < (l.length : Int) := by omega
      go_wp2
      go_ret
      exact ⟨rfl, hB⟩

end Go.Proofs.YtnbbajiabbmdmaaGreatDoor.A
