-- By drv.py, the session's own driver round the kit's print: the machine's side of the laws, function by function. Not trusted: Lean checks it.
import Derived.Test.YtnbbajiabbmdmaaGreatDoorAx0
import Derived.Test.YtnbbajiabbmdmaaGreatDoorAx32
import Derived.Test.YtnbbajiabbmdmaaGreatDoorAx35
namespace Go.Proofs.YtnbbajiabbmdmaaGreatDoor.A
open Go.RowKit Go.Proofs.YtnbbajiabbmdmaaGreatDoorW.PrintWords Go.Proofs.YtnbbajiabbmdmaaGreatDoorW.PrintLast Go.Proofs.YtnbbajiabbmdmaaGreatDoorW.PrintMore
attribute [local go_sem] max2_int min2_int max_two min_two max_three min_three max_four min_four   -- for this text's walks alone
set_option linter.unusedVariables false
set_option linter.unusedSimpArgs false

/-! ### caduceusref04_Attrs: function 23 -/
def caduceusref04_Attrs.l0 : Nat → List (S79) → Int → Option (Bool)
 | 0, _, _ => none
 | k + 1, x0, x3 => if x3 < (x0.length : Int) then (if 0 ≤ x3 then ((caduceusref04_Simple.f k ((rd_T79 x0 x3).f0)).bind fun t341 => (if t341 = true then ((caduceusref03_Check.f k ((rd_T79 x0 x3).f1.f0) ((rd_T79 x0 x3).f1.f1) ((rd_T79 x0 x3).f1.f2)).bind fun t343 => (if t343 = true then (if x3 > 0 then (if 0 ≤ (wrap64 (x3 - 1)) then (if (wrap64 (x3 - 1)) < (x0.length : Int) then ((caduceusref02_Compare.f k ((rd_T79 x0 (wrap64 (x3 - 1))).f0) ((rd_T79 x0 x3).f0)).bind fun t346 => (if t346 ≥ 0 then (some false) else (caduceusref04_Attrs.l0 k x0 (wrap64 (x3 + 1))))) else (none)) else (none)) else (caduceusref04_Attrs.l0 k x0 (wrap64 (x3 + 1)))) else (some false))) else (some false))) else (none)) else (some (decide ((x0.length : Int) ≤ 24)))
def caduceusref04_Attrs.f (k : Nat) (l0 : List (S79)) : Option (Bool) := caduceusref04_Attrs.l0 k l0 0
theorem caduceusref04_Attrs.mono_l : ∀ k, (∀ y0 y1, LeO (caduceusref04_Attrs.l0 k y0 y1) (caduceusref04_Attrs.l0 (k + 1) y0 y1))
 | 0 => fun _ _ r h => by simp [caduceusref04_Attrs.l0] at h
 | k + 1 => by
  have ih0 := caduceusref04_Attrs.mono_l k
  ·intro y0 y1
   unfold caduceusref04_Attrs.l0
   repeat' first
   | (with_reducible exact ih0 _ _)
   | (with_reducible exact caduceusref02_Compare.mono _ _ _)
   | (with_reducible exact caduceusref03_Check.mono _ _ _ _)
   | (with_reducible exact caduceusref04_Simple.mono _ _)
   | (with_reducible exact LeO.refl _)
   | (with_reducible exact LeO.none _)
   | (with_reducible refine LeO.ite ?_ ?_)
   | (with_reducible refine LeO.bind ?_ (fun _ => ?_))
   | exact ih0 _ _
   | exact caduceusref02_Compare.mono _ _ _
   | exact caduceusref03_Check.mono _ _ _ _
   | exact caduceusref04_Simple.mono _ _
   | exact LeO.none _
   | refine LeO.ite ?_ ?_
   | refine LeO.bind ?_ (fun _ => ?_)
theorem caduceusref04_Attrs.mono : ∀ a0 k, LeO (caduceusref04_Attrs.f k a0) (caduceusref04_Attrs.f (k + 1) a0) := by
 intro a0 k
 have ih0 := caduceusref04_Attrs.mono_l k
 unfold caduceusref04_Attrs.f
 repeat' first
   | (with_reducible exact ih0 _ _)
   | (with_reducible exact caduceusref02_Compare.mono _ _ _)
   | (with_reducible exact caduceusref03_Check.mono _ _ _ _)
   | (with_reducible exact caduceusref04_Simple.mono _ _)
   | (with_reducible exact LeO.refl _)
   | (with_reducible exact LeO.none _)
   | (with_reducible refine LeO.ite ?_ ?_)
   | (with_reducible refine LeO.bind ?_ (fun _ => ?_))
   | exact ih0 _ _
   | exact caduceusref02_Compare.mono _ _ _
   | exact caduceusref03_Check.mono _ _ _ _
   | exact caduceusref04_Simple.mono _ _
   | exact LeO.none _
   | refine LeO.ite ?_ ?_
   | refine LeO.bind ?_ (fun _ => ?_)
def caduceusref04_Attrs.T4 : Bool × List (List Nat × List Nat) := (true, [([], []), ([], []), ([0, 1], [0, 1]), ([2], [2]), ([3], [3]), ([4], [4]), ([5], [5]), ([6, 5], [6]), ([7], [7]), ([7], [7]), ([8, 9, 7], [7, 8, 9]), ([10, 7], [7, 10]), ([11, 7], [7, 11]), ([12, 7, 7], [7, 12]), ([13, 7], [7, 13]), ([7, 14], [7, 14]), ([15, 13], [15]), ([16], [16]), ([17, 16], [16, 17]), ([18, 16, 16], [16, 18]), ([19], [19]), ([19], [19]), ([21, 19], [19, 21]), ([20, 22, 19], [19, 20, 22]), ([23, 19], [19, 23]), ([24, 19], [19, 24]), ([19], [19]), ([19], [19]), ([26, 27, 19], [19, 26, 27]), ([28, 19], [19, 28]), ([29, 19], [19, 29]), ([25, 30, 19, 19], [19, 25, 30]), ([31, 19], [19, 31]), ([19, 32, 16], [16, 19, 32]), ([16, 33], [16, 33])])
def caduceusref04_Attrs.B4 : List Nat := [0, 0, 3, 7, 15, 31, 63, 127, 255, 255, 1023, 2047, 4095, 8191, 16383, 32767, 65535, 131071, 262143, 524287, 1048575, 1048575, 3145727, 8388607, 16777215, 33554431, 1048575, 1048575, 202375167, 470810623, 1007681535, 2147483647, 4294967295, 8589934591, 17179869183]
theorem caduceusref04_Attrs.tab4 : rtab .any (opsOf Tryz.f23 4) = caduceusref04_Attrs.T4 := by kernel_rfl
theorem caduceusref04_Attrs.bits4 : waitsOk caduceusref04_Attrs.T4.2 caduceusref04_Attrs.B4 = true := by kernel_rfl
set_option maxHeartbeats 8000000 in
set_option maxRecDepth 100000 in
theorem caduceusref04_Attrs.calls (k : Nat) (A0 : Option Addr) (c0 : Nat) (l0 : List (S79)) (r : Bool) (w : World) (hr0 : Kd.C k79 w A0 l0.length l0) (hc0 : l0.length ≤ c0) (h : caduceusref04_Attrs.f k l0 = some r) :
  Calls Tryz.prog 23 #[.slice A0 l0.length c0] w fun e w' => e = .returned (.bool r) ∧ Below w.heap.size w w' := by
 have hu77 := Tryz.underlying77
 have HR0 := Aside0.mk hr0
 have HC0 := Aside0.mk hc0
 clear hr0 hc0
 have HB := Aside0.mk (Below.refl w.heap.size w)
 have H : (caduceusref04_Attrs.l0 k l0 0) = some r := h
 clear h
 have H' := Aside0.mk H
 clear H
 go_enter Tryz.func23, Tryz.ntmps23
 go_wp2
 go_loopg [3] k (fun kq v3 w' => ∃ (x3_1 : Int), v3 = .int .i64 x3_1 ∧ Aside0 (caduceusref04_Attrs.l0 kq l0 x3_1 = some r) ∧ Aside0 (kq ≤ k) ∧ Aside0 (Below w.heap.size w w'))
 case atStart => exact ⟨(0), (endS), H', ⟨Nat.le_refl _⟩, ⟨bwA⟩⟩
 case round =>
  clear H'
  obtain ⟨x3_1, rfl, HA, HK1, HB⟩ := hrel
  cases gk with
  | zero => exact absurd HA.out (by simp [caduceusref04_Attrs.l0])
  | succ k1 =>
   have H := HA.out
   clear HA
   simp only [caduceusref04_Attrs.l0] at H
   by_cases c2 : x3_1 < (l0.length : Int)
   ·rw [if_pos c2] at H
    have c2b0 : decide (x3_1 < (l0.length : Int)) = true := decide_eq_true c2
    clear c2
    by_cases c3 : 0 ≤ x3_1
    ·rw [if_pos c3] at H
     have c3b0 : decide (0 ≤ x3_1) = true := decide_eq_true c3
     clear c3
     replace H := Option.bind_eq_some_iff.mp H
     obtain ⟨t341, A40, H⟩ := H
     replace H : (if t341 = true then ((caduceusref03_Check.f k1 ((rd_T79 l0 x3_1).f1.f0) ((rd_T79 l0 x3_1).f1.f1) ((rd_T79 l0 x3_1).f1.f2)).bind fun t343 => (if t343 = true then (if x3_1 > 0 then (if 0 ≤ (wrap64 (x3_1 - 1)) then (if (wrap64 (x3_1 - 1)) < (l0.length : Int) then ((caduceusref02_Compare.f k1 ((rd_T79 l0 (wrap64 (x3_1 - 1))).f0) ((rd_T79 l0 x3_1).f0)).bind fun t346 => (if t346 ≥ 0 then (some false) else (caduceusref04_Attrs.l0 k1 l0 (wrap64 (x3_1 + 1))))) else (none)) else (none)) else (caduceusref04_Attrs.l0 k1 l0 (wrap64 (x3_1 + 1)))) else (some false))) else (some false)) = some r := H
     have A4 := Aside0.mk A40
     clear A40
     by_cases c5 : t341 = true
     ·subst c5
      have H1 : ((caduceusref03_Check.f k1 ((rd_T79 l0 x3_1).f1.f0) ((rd_T79 l0 x3_1).f1.f1) ((rd_T79 l0 x3_1).f1.f2)).bind fun t343 => (if t343 = true then (if x3_1 > 0 then (if 0 ≤ (wrap64 (x3_1 - 1)) then (if (wrap64 (x3_1 - 1)) < (l0.length : Int) then ((caduceusref02_Compare.f k1 ((rd_T79 l0 (wrap64 (x3_1 - 1))).f0) ((rd_T79 l0 x3_1).f0)).bind fun t346 => (if t346 ≥ 0 then (some false) else (caduceusref04_Attrs.l0 k1 l0 (wrap64 (x3_1 + 1))))) else (none)) else (none)) else (caduceusref04_Attrs.l0 k1 l0 (wrap64 (x3_1 + 1)))) else (some false))) = some r := by rw [if_pos rfl] at H; exact H
      clear H
      have H := H1
      clear H1
      replace H := Option.bind_eq_some_iff.mp H
      obtain ⟨t343, A60, H⟩ := H
      replace H : (if t343 = true then (if x3_1 > 0 then (if 0 ≤ (wrap64 (x3_1 - 1)) then (if (wrap64 (x3_1 - 1)) < (l0.length : Int) then ((caduceusref02_Compare.f k1 ((rd_T79 l0 (wrap64 (x3_1 - 1))).f0) ((rd_T79 l0 x3_1).f0)).bind fun t346 => (if t346 ≥ 0 then (some false) else (caduceusref04_Attrs.l0 k1 l0 (wrap64 (x3_1 + 1))))) else (none)) else (none)) else (caduceusref04_Attrs.l0 k1 l0 (wrap64 (x3_1 + 1)))) else (some false)) = some r := H
      have A6 := Aside0.mk A60
      clear A60
      by_cases c7 : t343 = true
      ·subst c7
       have H1 : (if x3_1 > 0 then (if 0 ≤ (wrap64 (x3_1 - 1)) then (if (wrap64 (x3_1 - 1)) < (l0.length : Int) then ((caduceusref02_Compare.f k1 ((rd_T79 l0 (wrap64 (x3_1 - 1))).f0) ((rd_T79 l0 x3_1).f0)).bind fun t346 => (if t346 ≥ 0 then (some false) else (caduceusref04_Attrs.l0 k1 l0 (wrap64 (x3_1 + 1))))) else (none)) else (none)) else (caduceusref04_Attrs.l0 k1 l0 (wrap64 (x3_1 + 1)))) = some r := by rw [if_pos rfl] at H; exact H
       clear H
       have H := H1
       clear H1
       by_cases c8 : x3_1 > 0
       ·rw [if_pos c8] at H
        have c8b0 : decide (0 < x3_1) = true := decide_eq_true c8
        clear c8
        obtain ⟨ji9, hji9⟩ : ∃ j_ : Int, (wrap64 (x3_1 - 1)) = j_ := ⟨_, rfl⟩
        replace H : (if 0 ≤ (ji9) then (if (ji9) < (l0.length : Int) then ((caduceusref02_Compare.f k1 ((rd_T79 l0 (ji9)).f0) ((rd_T79 l0 x3_1).f0)).bind fun t346 => (if t346 ≥ 0 then (some false) else (caduceusref04_Attrs.l0 k1 l0 (wrap64 (x3_1 + 1))))) else (none)) else (none)) = some r := by first | (rw [hji9] at H; exact H) | (simp only [hji9] at H ⊢; exact H)
        (try rw [hji9] at A4)
        (try rw [hji9] at A6)
        have hji9w : (IntKind.i64.wrap (x3_1 - 1)) = ji9 := (i64_w _).trans hji9
        by_cases c10 : 0 ≤ (ji9)
        ·rw [if_pos c10] at H
         have c10b0 : decide (0 ≤ (ji9)) = true := decide_eq_true c10
         clear c10
         by_cases c11 : (ji9) < (l0.length : Int)
         ·rw [if_pos c11] at H
          have c11b0 : decide ((ji9) < (l0.length : Int)) = true := decide_eq_true c11
          clear c11
          replace H := Option.bind_eq_some_iff.mp H
          obtain ⟨t346, A120, H⟩ := H
          replace H : (if t346 ≥ 0 then (some false) else (caduceusref04_Attrs.l0 k1 l0 (wrap64 (x3_1 + 1)))) = some r := H
          have A12 := Aside0.mk A120
          clear A120
          by_cases c13 : t346 ≥ 0
          ·rw [if_pos c13] at H
           have c13b0 : decide (0 ≤ t346) = true := decide_eq_true c13
           clear c13
           obtain rfl := Option.some.inj H
           try go_wp2
           have n0_ := Aside0.mk (below_drew1 HB.out); clear HB; have HB := n0_; clear n0_
           have p340 : 0 ≤ (x3_1 : Int) := odA
           have q340 : x3_1 < (l0.length : Int) := odA
           obtain ⟨ad340, e340, hx340_0, hx340_1, hx340_2, hx340_3⟩ := at_T79 HR0.out x3_1 p340 q340
           have hw340_3 := hx340_3
           have hw340_2 := hx340_2
           have hw340_1 := hx340_1
           have hw340_0 := hx340_0
           cases e340
           replace hx340_0 := crA hx340_0
           replace hx340_1 := crA hx340_1
           replace hx340_2 := crA hx340_2
           replace hx340_3 := crA hx340_3
           replace p340 := eq_true p340
           replace q340 := eq_true q340
           have p342 : 0 ≤ (x3_1 : Int) := odA
           have q342 : x3_1 < (l0.length : Int) := odA
           obtain ⟨ad342, e342, hx342_0, hx342_1, hx342_2, hx342_3⟩ := at_T79 HR0.out x3_1 p342 q342
           have hw342_3 := hx342_3
           have hw342_2 := hx342_2
           have hw342_1 := hx342_1
           have hw342_0 := hx342_0
           obtain rfl : ad340 = ad342 := (by injection e342)
           replace hx342_0 := crA hx342_0
           replace hx342_1 := crA hx342_1
           replace hx342_2 := crA hx342_2
           replace hx342_3 := crA hx342_3
           replace p342 := eq_true p342
           replace q342 := eq_true q342
           have p344 : 0 ≤ ((ji9) : Int) := odA
           have q344 : (ji9) < (l0.length : Int) := odA
           obtain ⟨ad344, e344, hx344_0, hx344_1, hx344_2, hx344_3⟩ := at_T79 HR0.out (ji9) p344 q344
           have hw344_3 := hx344_3
           have hw344_2 := hx344_2
           have hw344_1 := hx344_1
           have hw344_0 := hx344_0
           obtain rfl : ad340 = ad344 := (by injection e344)
           replace hx344_0 := crA hx344_0
           replace hx344_1 := crA hx344_1
           replace hx344_2 := crA hx344_2
           replace hx344_3 := crA hx344_3
           replace p344 := eq_true p344
           replace q344 := eq_true q344
           have p345 : 0 ≤ (x3_1 : Int) := odA
           have q345 : x3_1 < (l0.length : Int) := odA
           obtain ⟨ad345, e345, hx345_0, hx345_1, hx345_2, hx345_3⟩ := at_T79 HR0.out x3_1 p345 q345
           have hw345_3 := hx345_3
           have hw345_2 := hx345_2
           have hw345_1 := hx345_1
           have hw345_0 := hx345_0
           obtain rfl : ad340 = ad345 := (by injection e345)
           replace hx345_0 := crA hx345_0
           replace hx345_1 := crA hx345_1
           replace hx345_2 := crA hx345_2
           replace hx345_3 := crA hx345_3
           replace p345 := eq_true p345
           replace q345 := eq_true q345
           refine start_ (n := 35) (S := fun w' => w'.cell? (ad340.add ((x3_1).toNat * 4)) = some (.string ((rd_T79 l0 x3_1).f0)) ∧ w'.cell? ⟨(ad340.add ((x3_1).toNat * 4)).block, (ad340.add ((x3_1).toNat * 4)).off + 1, none⟩ = some (.int .i64 ((rd_T79 l0 x3_1).f1.f0)) ∧ w'.cell? ⟨(ad340.add ((x3_1).toNat * 4)).block, (ad340.add ((x3_1).toNat * 4)).off + 2, none⟩ = some (.int .i64 ((rd_T79 l0 x3_1).f1.f1)) ∧ w'.cell? ⟨(ad340.add ((x3_1).toNat * 4)).block, (ad340.add ((x3_1).toNat * 4)).off + 3, none⟩ = some (.string ((rd_T79 l0 x3_1).f1.f2)) ∧ w'.cell? (ad340.add ((x3_1).toNat * 4)) = some (.string ((rd_T79 l0 x3_1).f0)) ∧ w'.cell? ⟨(ad340.add ((x3_1).toNat * 4)).block, (ad340.add ((x3_1).toNat * 4)).off + 1, none⟩ = some (.int .i64 ((rd_T79 l0 x3_1).f1.f0)) ∧ w'.cell? ⟨(ad340.add ((x3_1).toNat * 4)).block, (ad340.add ((x3_1).toNat * 4)).off + 2, none⟩ = some (.int .i64 ((rd_T79 l0 x3_1).f1.f1)) ∧ w'.cell? ⟨(ad340.add ((x3_1).toNat * 4)).block, (ad340.add ((x3_1).toNat * 4)).off + 3, none⟩ = some (.string ((rd_T79 l0 x3_1).f1.f2)) ∧ w'.cell? (ad340.add (((ji9)).toNat * 4)) = some (.string ((rd_T79 l0 (ji9)).f0)) ∧ w'.cell? ⟨(ad340.add (((ji9)).toNat * 4)).block, (ad340.add (((ji9)).toNat * 4)).off + 1, none⟩ = some (.int .i64 ((rd_T79 l0 (ji9)).f1.f0)) ∧ w'.cell? ⟨(ad340.add (((ji9)).toNat * 4)).block, (ad340.add (((ji9)).toNat * 4)).off + 2, none⟩ = some (.int .i64 ((rd_T79 l0 (ji9)).f1.f1)) ∧ w'.cell? ⟨(ad340.add (((ji9)).toNat * 4)).block, (ad340.add (((ji9)).toNat * 4)).off + 3, none⟩ = some (.string ((rd_T79 l0 (ji9)).f1.f2)) ∧ w'.cell? (ad340.add ((x3_1).toNat * 4)) = some (.string ((rd_T79 l0 x3_1).f0)) ∧ w'.cell? ⟨(ad340.add ((x3_1).toNat * 4)).block, (ad340.add ((x3_1).toNat * 4)).off + 1, none⟩ = some (.int .i64 ((rd_T79 l0 x3_1).f1.f0)) ∧ w'.cell? ⟨(ad340.add ((x3_1).toNat * 4)).block, (ad340.add ((x3_1).toNat * 4)).off + 2, none⟩ = some (.int .i64 ((rd_T79 l0 x3_1).f1.f1)) ∧ w'.cell? ⟨(ad340.add ((x3_1).toNat * 4)).block, (ad340.add ((x3_1).toNat * 4)).off + 3, none⟩ = some (.string ((rd_T79 l0 x3_1).f1.f2))) (ds := []) (mkB 35 0) (by kernel_rfl) rfl rfl ⟨crA hw340_0, crA hw340_1, crA hw340_2, crA hw340_3, crA hw342_0, crA hw342_1, crA hw342_2, crA hw342_3, crA hw344_0, crA hw344_1, crA hw344_2, crA hw344_3, crA hw345_0, crA hw345_1, crA hw345_2, crA hw345_3⟩ (fun hHeld => ?_); refine with_tabW caduceusref04_Attrs.tab4 caduceusref04_Attrs.bits4 (fun HT_ HW_ => ?_)
           generalize wr.drew = w14 at HB hx340_0 hx340_1 hx340_2 hx340_3 hx342_0 hx342_1 hx342_2 hx342_3 hx344_0 hx344_1 hx344_2 hx344_3 hx345_0 hx345_1 hx345_2 hx345_3 hHeld ⊢
           refine pureA 0 (some 10) (mkB 35 1) ?_
           refine pureA 1 (some 11) (mkB 35 3) ?_
           refine pureA 2 (some 12) (mkB 35 7) ?_
           refine pureA 3 (some 13) (mkB 35 15) ?_
           refine takeA 4 (some 14) (mkB 35 31) ?_ rfl (Or.inl ⟨by rfl, by rintro w' ⟨s0, s1, s2, s3, s4, s5, s6, s7, s8, s9, s10, s11, s12, s13, s14, s15⟩; go_simp; with_reducible rfl⟩)
           refine oneA 5 (some 15) (mkB 35 63) (fun K hK => ?_)
           refine goes_ Tryz.func53 (by kernel_rfl) rfl #[.string ((rd_T79 l0 x3_1).f0)] (by rfl) rfl rfl (by (try simp only [List.map_toArray, List.map_cons, List.map_nil]); first | done | rfl | (simp only [List.length_drop, List.length_take]; rfl)) ?_
           with_reducible refine (caduceusref04_Simple.calls k1 ((rd_T79 l0 x3_1).f0) true _ A4.out).mono ?_
           rintro e w15 ⟨rfl, hb⟩
           refine ⟨_, rfl, ?_⟩
           have n0_ := Aside0.mk (below_step (bwA) hb); clear HB; have HB := n0_; clear n0_
           (try clear hb); (try clear hb2); (try clear hk); (try clear hi)
           refine hK.out _ _ ⟨crA hw340_0, crA hw340_1, crA hw340_2, crA hw340_3, crA hw342_0, crA hw342_1, crA hw342_2, crA hw342_3, crA hw344_0, crA hw344_1, crA hw344_2, crA hw344_3, crA hw345_0, crA hw345_1, crA hw345_2, crA hw345_3⟩ (fun hHeld => ?_)
           clear hK K
           refine normA ?_
           refine pureA 6 (some 16) (mkB 35 127) ?_
           refine pureA 7 (some 17) (mkB 35 255) ?_
           refine pureA 8 (some 18) (mkB 35 511) ?_
           refine pureA 9 (some 19) (mkB 35 1023) ?_
           refine pureA 10 (some 20) (mkB 35 2047) ?_
           refine pureA 11 (some 21) (mkB 35 4095) ?_
           refine takeA 12 (some 22) (mkB 35 8191) ?_ rfl (Or.inl ⟨by rfl, by rintro w' ⟨s0, s1, s2, s3, s4, s5, s6, s7, s8, s9, s10, s11, s12, s13, s14, s15⟩; go_simp; with_reducible rfl⟩)
           refine oneA 13 (some 23) (mkB 35 16383) (fun K hK => ?_)
           refine goes_ Tryz.func54 (by kernel_rfl) rfl #[.agg #[.int .i64 ((rd_T79 l0 x3_1).f1.f0), .int .i64 ((rd_T79 l0 x3_1).f1.f1), .string ((rd_T79 l0 x3_1).f1.f2)]] (by rfl) rfl rfl (by (try simp only [List.map_toArray, List.map_cons, List.map_nil]); first | done | rfl | (simp only [List.length_drop, List.length_take]; rfl)) ?_
           with_reducible refine (caduceusref03_Check.calls k1 ((rd_T79 l0 x3_1).f1.f0) ((rd_T79 l0 x3_1).f1.f1) ((rd_T79 l0 x3_1).f1.f2) true _ A6.out).mono ?_
           rintro e w16 ⟨rfl, hb⟩
           refine ⟨_, rfl, ?_⟩
           have n0_ := Aside0.mk (below_step (bwA) hb); clear HB; have HB := n0_; clear n0_
           (try clear hb); (try clear hb2); (try clear hk); (try clear hi)
           refine hK.out _ _ ⟨crA hw340_0, crA hw340_1, crA hw340_2, crA hw340_3, crA hw342_0, crA hw342_1, crA hw342_2, crA hw342_3, crA hw344_0, crA hw344_1, crA hw344_2, crA hw344_3, crA hw345_0, crA hw345_1, crA hw345_2, crA hw345_3⟩ (fun hHeld => ?_)
           clear hK K
           refine normA ?_
           refine pureA 14 (some 24) (mkB 35 32767) ?_
           refine pureA 15 (some 25) (mkB 35 65535) ?_
           refine pureA 16 (some 26) (mkB 35 131071) ?_
           refine pureA 17 (some 27) (mkB 35 262143) ?_
           refine pureA 18 (some 28) (mkB 35 524287) ?_
           refine pureA 19 (some 29) (mkB 35 1048575) ?_
           refine pureA 20 (some 30) (mkB 35 2097151) ?_
           refine pureA 21 (some 31) (mkB 35 4194303) ?_
           refine pureA 22 (some 32) (mkB 35 8388607) ?_
           refine pureA 23 (some 33) (mkB 35 16777215) ?_
           refine pureA 24 (some 34) (mkB 35 33554431) ?_
           refine pureA 26 (some 36) (mkB 35 100663295) ?_
           refine pureA 27 (some 37) (mkB 35 234881023) ?_
           refine pureA 28 (some 38) (mkB 35 503316479) ?_
           refine pureA 29 (some 39) (mkB 35 1040187391) ?_
           refine takeA 25 (some 35) (mkB 35 1073741823) ?_ rfl (Or.inl ⟨by rfl, by rintro w' ⟨s0, s1, s2, s3, s4, s5, s6, s7, s8, s9, s10, s11, s12, s13, s14, s15⟩; go_simp; with_reducible rfl⟩)
           refine takeA 30 (some 40) (mkB 35 2147483647) ?_ rfl (Or.inl ⟨by rfl, by rintro w' ⟨s0, s1, s2, s3, s4, s5, s6, s7, s8, s9, s10, s11, s12, s13, s14, s15⟩; go_simp; with_reducible rfl⟩)
           refine oneA 31 (some 41) (mkB 35 4294967295) (fun K hK => ?_)
           refine goes_ Tryz.func44 (by kernel_rfl) rfl #[.string ((rd_T79 l0 (ji9)).f0), .string ((rd_T79 l0 x3_1).f0)] (by rfl) rfl rfl (by (try simp only [List.map_toArray, List.map_cons, List.map_nil]); first | done | (simp only [hji9]; rfl) | rfl | (simp only [List.length_drop, List.length_take]; rfl)) ?_
           with_reducible refine (caduceusref02_Compare.calls k1 ((rd_T79 l0 (ji9)).f0) ((rd_T79 l0 x3_1).f0) t346 _ A12.out).mono ?_
           rintro e w17 ⟨rfl, hb⟩
           refine ⟨_, rfl, ?_⟩
           have n0_ := Aside0.mk (below_step (bwA) hb); clear HB; have HB := n0_; clear n0_
           (try clear hb); (try clear hb2); (try clear hk); (try clear hi)
           refine hK.out _ _ ⟨crA hw340_0, crA hw340_1, crA hw340_2, crA hw340_3, crA hw342_0, crA hw342_1, crA hw342_2, crA hw342_3, crA hw344_0, crA hw344_1, crA hw344_2, crA hw344_3, crA hw345_0, crA hw345_1, crA hw345_2, crA hw345_3⟩ (fun hHeld => ?_)
           clear hK K
           refine normA ?_
           refine pureA 32 (some 42) (mkB 35 8589934591) ?_
           refine pureA 33 (some 43) (mkB 35 17179869183) ?_
           refine pureA 34 (some 44) (mkB 35 34359738367) ?_
           refine done_ (done_of HT_.out (by kernel_rfl)) ?_
           try go_wp2
           go_ret
           exact ⟨by first | rfl | (rw [ne_nil_b]; (first | done | rfl)) | (simp [errW_none, errW_some] <;> rfl) | (simp only [← hji9]; first | rfl | (simp [errW_none, errW_some] <;> rfl)) | (simp [*, errW_none, errW_some] <;> rfl), bwA⟩
          ·rw [if_neg c13] at H
           have c13b0 : decide (0 ≤ t346) = false := decide_eq_false c13
           clear c13
           have H' := Aside0.mk H
           clear H
           try go_wp2
           have n0_ := Aside0.mk (below_drew1 HB.out); clear HB; have HB := n0_; clear n0_
           have p340 : 0 ≤ (x3_1 : Int) := odA
           have q340 : x3_1 < (l0.length : Int) := odA
           obtain ⟨ad340, e340, hx340_0, hx340_1, hx340_2, hx340_3⟩ := at_T79 HR0.out x3_1 p340 q340
           have hw340_3 := hx340_3
           have hw340_2 := hx340_2
           have hw340_1 := hx340_1
           have hw340_0 := hx340_0
           cases e340
           replace hx340_0 := crA hx340_0
           replace hx340_1 := crA hx340_1
           replace hx340_2 := crA hx340_2
           replace hx340_3 := crA hx340_3
           replace p340 := eq_true p340
           replace q340 := eq_true q340
           have p342 : 0 ≤ (x3_1 : Int) := odA
           have q342 : x3_1 < (l0.length : Int) := odA
           obtain ⟨ad342, e342, hx342_0, hx342_1, hx342_2, hx342_3⟩ := at_T79 HR0.out x3_1 p342 q342
           have hw342_3 := hx342_3
           have hw342_2 := hx342_2
           have hw342_1 := hx342_1
           have hw342_0 := hx342_0
           obtain rfl : ad340 = ad342 := (by injection e342)
           replace hx342_0 := crA hx342_0
           replace hx342_1 := crA hx342_1
           replace hx342_2 := crA hx342_2
           replace hx342_3 := crA hx342_3
           replace p342 := eq_true p342
           replace q342 := eq_true q342
           have p344 : 0 ≤ ((ji9) : Int) := odA
           have q344 : (ji9) < (l0.length : Int) := odA
           obtain ⟨ad344, e344, hx344_0, hx344_1, hx344_2, hx344_3⟩ := at_T79 HR0.out (ji9) p344 q344
           have hw344_3 := hx344_3
           have hw344_2 := hx344_2
           have hw344_1 := hx344_1
           have hw344_0 := hx344_0
           obtain rfl : ad340 = ad344 := (by injection e344)
           replace hx344_0 := crA hx344_0
           replace hx344_1 := crA hx344_1
           replace hx344_2 := crA hx344_2
           replace hx344_3 := crA hx344_3
           replace p344 := eq_true p344
           replace q344 := eq_true q344
           have p345 : 0 ≤ (x3_1 : Int) := odA
           have q345 : x3_1 < (l0.length : Int) := odA
           obtain ⟨ad345, e345, hx345_0, hx345_1, hx345_2, hx345_3⟩ := at_T79 HR0.out x3_1 p345 q345
           have hw345_3 := hx345_3
           have hw345_2 := hx345_2
           have hw345_1 := hx345_1
           have hw345_0 := hx345_0
           obtain rfl : ad340 = ad345 := (by injection e345)
           replace hx345_0 := crA hx345_0
           replace hx345_1 := crA hx345_1
           replace hx345_2 := crA hx345_2
           replace hx345_3 := crA hx345_3
           replace p345 := eq_true p345
           replace q345 := eq_true q345
           refine start_ (n := 35) (S := fun w' => w'.cell? (ad340.add ((x3_1).toNat * 4)) = some (.string ((rd_T79 l0 x3_1).f0)) ∧ w'.cell? ⟨(ad340.add ((x3_1).toNat * 4)).block, (ad340.add ((x3_1).toNat * 4)).off + 1, none⟩ = some (.int .i64 ((rd_T79 l0 x3_1).f1.f0)) ∧ w'.cell? ⟨(ad340.add ((x3_1).toNat * 4)).block, (ad340.add ((x3_1).toNat * 4)).off + 2, none⟩ = some (.int .i64 ((rd_T79 l0 x3_1).f1.f1)) ∧ w'.cell? ⟨(ad340.add ((x3_1).toNat * 4)).block, (ad340.add ((x3_1).toNat * 4)).off + 3, none⟩ = some (.string ((rd_T79 l0 x3_1).f1.f2)) ∧ w'.cell? (ad340.add ((x3_1).toNat * 4)) = some (.string ((rd_T79 l0 x3_1).f0)) ∧ w'.cell? ⟨(ad340.add ((x3_1).toNat * 4)).block, (ad340.add ((x3_1).toNat * 4)).off + 1, none⟩ = some (.int .i64 ((rd_T79 l0 x3_1).f1.f0)) ∧ w'.cell? ⟨(ad340.add ((x3_1).toNat * 4)).block, (ad340.add ((x3_1).toNat * 4)).off + 2, none⟩ = some (.int .i64 ((rd_T79 l0 x3_1).f1.f1)) ∧ w'.cell? ⟨(ad340.add ((x3_1).toNat * 4)).block, (ad340.add ((x3_1).toNat * 4)).off + 3, none⟩ = some (.string ((rd_T79 l0 x3_1).f1.f2)) ∧ w'.cell? (ad340.add (((ji9)).toNat * 4)) = some (.string ((rd_T79 l0 (ji9)).f0)) ∧ w'.cell? ⟨(ad340.add (((ji9)).toNat * 4)).block, (ad340.add (((ji9)).toNat * 4)).off + 1, none⟩ = some (.int .i64 ((rd_T79 l0 (ji9)).f1.f0)) ∧ w'.cell? ⟨(ad340.add (((ji9)).toNat * 4)).block, (ad340.add (((ji9)).toNat * 4)).off + 2, none⟩ = some (.int .i64 ((rd_T79 l0 (ji9)).f1.f1)) ∧ w'.cell? ⟨(ad340.add (((ji9)).toNat * 4)).block, (ad340.add (((ji9)).toNat * 4)).off + 3, none⟩ = some (.string ((rd_T79 l0 (ji9)).f1.f2)) ∧ w'.cell? (ad340.add ((x3_1).toNat * 4)) = some (.string ((rd_T79 l0 x3_1).f0)) ∧ w'.cell? ⟨(ad340.add ((x3_1).toNat * 4)).block, (ad340.add ((x3_1).toNat * 4)).off + 1, none⟩ = some (.int .i64 ((rd_T79 l0 x3_1).f1.f0)) ∧ w'.cell? ⟨(ad340.add ((x3_1).toNat * 4)).block, (ad340.add ((x3_1).toNat * 4)).off + 2, none⟩ = some (.int .i64 ((rd_T79 l0 x3_1).f1.f1)) ∧ w'.cell? ⟨(ad340.add ((x3_1).toNat * 4)).block, (ad340.add ((x3_1).toNat * 4)).off + 3, none⟩ = some (.string ((rd_T79 l0 x3_1).f1.f2))) (ds := []) (mkB 35 0) (by kernel_rfl) rfl rfl ⟨crA hw340_0, crA hw340_1, crA hw340_2, crA hw340_3, crA hw342_0, crA hw342_1, crA hw342_2, crA hw342_3, crA hw344_0, crA hw344_1, crA hw344_2, crA hw344_3, crA hw345_0, crA hw345_1, crA hw345_2, crA hw345_3⟩ (fun hHeld => ?_); refine with_tabW caduceusref04_Attrs.tab4 caduceusref04_Attrs.bits4 (fun HT_ HW_ => ?_)
           generalize wr.drew = w18 at HB hx340_0 hx340_1 hx340_2 hx340_3 hx342_0 hx342_1 hx342_2 hx342_3 hx344_0 hx344_1 hx344_2 hx344_3 hx345_0 hx345_1 hx345_2 hx345_3 hHeld ⊢
           refine pureA 0 (some 10) (mkB 35 1) ?_
           refine pureA 1 (some 11) (mkB 35 3) ?_
           refine pureA 2 (some 12) (mkB 35 7) ?_
           refine pureA 3 (some 13) (mkB 35 15) ?_
           refine takeA 4 (some 14) (mkB 35 31) ?_ rfl (Or.inl ⟨by rfl, by rintro w' ⟨s0, s1, s2, s3, s4, s5, s6, s7, s8, s9, s10, s11, s12, s13, s14, s15⟩; go_simp; with_reducible rfl⟩)
           refine oneA 5 (some 15) (mkB 35 63) (fun K hK => ?_)
           refine goes_ Tryz.func53 (by kernel_rfl) rfl #[.string ((rd_T79 l0 x3_1).f0)] (by rfl) rfl rfl (by (try simp only [List.map_toArray, List.map_cons, List.map_nil]); first | done | rfl | (simp only [List.length_drop, List.length_take]; rfl)) ?_
           with_reducible refine (caduceusref04_Simple.calls k1 ((rd_T79 l0 x3_1).f0) true _ A4.out).mono ?_
           rintro e w19 ⟨rfl, hb⟩
           refine ⟨_, rfl, ?_⟩
           have n0_ := Aside0.mk (below_step (bwA) hb); clear HB; have HB := n0_; clear n0_
           (try clear hb); (try clear hb2); (try clear hk); (try clear hi)
           refine hK.out _ _ ⟨crA hw340_0, crA hw340_1, crA hw340_2, crA hw340_3, crA hw342_0, crA hw342_1, crA hw342_2, crA hw342_3, crA hw344_0, crA hw344_1, crA hw344_2, crA hw344_3, crA hw345_0, crA hw345_1, crA hw345_2, crA hw345_3⟩ (fun hHeld => ?_)
           clear hK K
           refine normA ?_
           refine pureA 6 (some 16) (mkB 35 127) ?_
           refine pureA 7 (some 17) (mkB 35 255) ?_
           refine pureA 8 (some 18) (mkB 35 511) ?_
           refine pureA 9 (some 19) (mkB 35 1023) ?_
           refine pureA 10 (some 20) (mkB 35 2047) ?_
           refine pureA 11 (some 21) (mkB 35 4095) ?_
           refine takeA 12 (some 22) (mkB 35 8191) ?_ rfl (Or.inl ⟨by rfl, by rintro w' ⟨s0, s1, s2, s3, s4, s5, s6, s7, s8, s9, s10, s11, s12, s13, s14, s15⟩; go_simp; with_reducible rfl⟩)
           refine oneA 13 (some 23) (mkB 35 16383) (fun K hK => ?_)
           refine goes_ Tryz.func54 (by kernel_rfl) rfl #[.agg #[.int .i64 ((rd_T79 l0 x3_1).f1.f0), .int .i64 ((rd_T79 l0 x3_1).f1.f1), .string ((rd_T79 l0 x3_1).f1.f2)]] (by rfl) rfl rfl (by (try simp only [List.map_toArray, List.map_cons, List.map_nil]); first | done | rfl | (simp only [List.length_drop, List.length_take]; rfl)) ?_
           with_reducible refine (caduceusref03_Check.calls k1 ((rd_T79 l0 x3_1).f1.f0) ((rd_T79 l0 x3_1).f1.f1) ((rd_T79 l0 x3_1).f1.f2) true _ A6.out).mono ?_
           rintro e w20 ⟨rfl, hb⟩
           refine ⟨_, rfl, ?_⟩
           have n0_ := Aside0.mk (below_step (bwA) hb); clear HB; have HB := n0_; clear n0_
           (try clear hb); (try clear hb2); (try clear hk); (try clear hi)
           refine hK.out _ _ ⟨crA hw340_0, crA hw340_1, crA hw340_2, crA hw340_3, crA hw342_0, crA hw342_1, crA hw342_2, crA hw342_3, crA hw344_0, crA hw344_1, crA hw344_2, crA hw344_3, crA hw345_0, crA hw345_1, crA hw345_2, crA hw345_3⟩ (fun hHeld => ?_)
           clear hK K
           refine normA ?_
           refine pureA 14 (some 24) (mkB 35 32767) ?_
           refine pureA 15 (some 25) (mkB 35 65535) ?_
           refine pureA 16 (some 26) (mkB 35 131071) ?_
           refine pureA 17 (some 27) (mkB 35 262143) ?_
           refine pureA 18 (some 28) (mkB 35 524287) ?_
           refine pureA 19 (some 29) (mkB 35 1048575) ?_
           refine pureA 20 (some 30) (mkB 35 2097151) ?_
           refine pureA 21 (some 31) (mkB 35 4194303) ?_
           refine pureA 22 (some 32) (mkB 35 8388607) ?_
           refine pureA 23 (some 33) (mkB 35 16777215) ?_
           refine pureA 24 (some 34) (mkB 35 33554431) ?_
           refine pureA 26 (some 36) (mkB 35 100663295) ?_
           refine pureA 27 (some 37) (mkB 35 234881023) ?_
           refine pureA 28 (some 38) (mkB 35 503316479) ?_
           refine pureA 29 (some 39) (mkB 35 1040187391) ?_
           refine takeA 25 (some 35) (mkB 35 1073741823) ?_ rfl (Or.inl ⟨by rfl, by rintro w' ⟨s0, s1, s2, s3, s4, s5, s6, s7, s8, s9, s10, s11, s12, s13, s14, s15⟩; go_simp; with_reducible rfl⟩)
           refine takeA 30 (some 40) (mkB 35 2147483647) ?_ rfl (Or.inl ⟨by rfl, by rintro w' ⟨s0, s1, s2, s3, s4, s5, s6, s7, s8, s9, s10, s11, s12, s13, s14, s15⟩; go_simp; with_reducible rfl⟩)
           refine oneA 31 (some 41) (mkB 35 4294967295) (fun K hK => ?_)
           refine goes_ Tryz.func44 (by kernel_rfl) rfl #[.string ((rd_T79 l0 (ji9)).f0), .string ((rd_T79 l0 x3_1).f0)] (by rfl) rfl rfl (by (try simp only [List.map_toArray, List.map_cons, List.map_nil]); first | done | (simp only [hji9]; rfl) | rfl | (simp only [List.length_drop, List.length_take]; rfl)) ?_
           with_reducible refine (caduceusref02_Compare.calls k1 ((rd_T79 l0 (ji9)).f0) ((rd_T79 l0 x3_1).f0) t346 _ A12.out).mono ?_
           rintro e w21 ⟨rfl, hb⟩
           refine ⟨_, rfl, ?_⟩
           have n0_ := Aside0.mk (below_step (bwA) hb); clear HB; have HB := n0_; clear n0_
           (try clear hb); (try clear hb2); (try clear hk); (try clear hi)
           refine hK.out _ _ ⟨crA hw340_0, crA hw340_1, crA hw340_2, crA hw340_3, crA hw342_0, crA hw342_1, crA hw342_2, crA hw342_3, crA hw344_0, crA hw344_1, crA hw344_2, crA hw344_3, crA hw345_0, crA hw345_1, crA hw345_2, crA hw345_3⟩ (fun hHeld => ?_)
           clear hK K
           refine normA ?_
           refine pureA 32 (some 42) (mkB 35 8589934591) ?_
           refine pureA 33 (some 43) (mkB 35 17179869183) ?_
           refine pureA 34 (some 44) (mkB 35 34359738367) ?_
           refine done_ (done_of HT_.out (by kernel_rfl)) ?_
           try go_wp2
           go_roundg k1
           case measure => have := HK1.out; omega
           case rel => exact ⟨(wrap64 (x3_1 + 1)), (endS), H', ⟨by have := HK1.out; omega⟩, ⟨bwA⟩⟩
         ·rw [if_neg c11] at H
          exact absurd H (by simp)
        ·rw [if_neg c10] at H
         exact absurd H (by simp)
       ·rw [if_neg c8] at H
        have c8b0 : decide (0 < x3_1) = false := decide_eq_false c8
        clear c8
        have H' := Aside0.mk H
        clear H
        try go_wp2
        have n0_ := Aside0.mk (below_drew1 HB.out); clear HB; have HB := n0_; clear n0_
        have p340 : 0 ≤ (x3_1 : Int) := odA
        have q340 : x3_1 < (l0.length : Int) := odA
        obtain ⟨ad340, e340, hx340_0, hx340_1, hx340_2, hx340_3⟩ := at_T79 HR0.out x3_1 p340 q340
        have hw340_3 := hx340_3
        have hw340_2 := hx340_2
        have hw340_1 := hx340_1
        have hw340_0 := hx340_0
        cases e340
        replace hx340_0 := crA hx340_0
        replace hx340_1 := crA hx340_1
        replace hx340_2 := crA hx340_2
        replace hx340_3 := crA hx340_3
        replace p340 := eq_true p340
        replace q340 := eq_true q340
        have p342 : 0 ≤ (x3_1 : Int) := odA
        have q342 : x3_1 < (l0.length : Int) := odA
        obtain ⟨ad342, e342, hx342_0, hx342_1, hx342_2, hx342_3⟩ := at_T79 HR0.out x3_1 p342 q342
        have hw342_3 := hx342_3
        have hw342_2 := hx342_2
        have hw342_1 := hx342_1
        have hw342_0 := hx342_0
        obtain rfl : ad340 = ad342 := (by injection e342)
        replace hx342_0 := crA hx342_0
        replace hx342_1 := crA hx342_1
        replace hx342_2 := crA hx342_2
        replace hx342_3 := crA hx342_3
        replace p342 := eq_true p342
        replace q342 := eq_true q342
        refine start_ (n := 35) (S := fun w' => w'.cell? (ad340.add ((x3_1).toNat * 4)) = some (.string ((rd_T79 l0 x3_1).f0)) ∧ w'.cell? ⟨(ad340.add ((x3_1).toNat * 4)).block, (ad340.add ((x3_1).toNat * 4)).off + 1, none⟩ = some (.int .i64 ((rd_T79 l0 x3_1).f1.f0)) ∧ w'.cell? ⟨(ad340.add ((x3_1).toNat * 4)).block, (ad340.add ((x3_1).toNat * 4)).off + 2, none⟩ = some (.int .i64 ((rd_T79 l0 x3_1).f1.f1)) ∧ w'.cell? ⟨(ad340.add ((x3_1).toNat * 4)).block, (ad340.add ((x3_1).toNat * 4)).off + 3, none⟩ = some (.string ((rd_T79 l0 x3_1).f1.f2)) ∧ w'.cell? (ad340.add ((x3_1).toNat * 4)) = some (.string ((rd_T79 l0 x3_1).f0)) ∧ w'.cell? ⟨(ad340.add ((x3_1).toNat * 4)).block, (ad340.add ((x3_1).toNat * 4)).off + 1, none⟩ = some (.int .i64 ((rd_T79 l0 x3_1).f1.f0)) ∧ w'.cell? ⟨(ad340.add ((x3_1).toNat * 4)).block, (ad340.add ((x3_1).toNat * 4)).off + 2, none⟩ = some (.int .i64 ((rd_T79 l0 x3_1).f1.f1)) ∧ w'.cell? ⟨(ad340.add ((x3_1).toNat * 4)).block, (ad340.add ((x3_1).toNat * 4)).off + 3, none⟩ = some (.string ((rd_T79 l0 x3_1).f1.f2))) (ds := []) (mkB 35 0) (by kernel_rfl) rfl rfl ⟨crA hw340_0, crA hw340_1, crA hw340_2, crA hw340_3, crA hw342_0, crA hw342_1, crA hw342_2, crA hw342_3⟩ (fun hHeld => ?_); refine with_tabW caduceusref04_Attrs.tab4 caduceusref04_Attrs.bits4 (fun HT_ HW_ => ?_)
        generalize wr.drew = w22 at HB hx340_0 hx340_1 hx340_2 hx340_3 hx342_0 hx342_1 hx342_2 hx342_3 hHeld ⊢
        refine pureA 0 (some 10) (mkB 35 1) ?_
        refine pureA 1 (some 11) (mkB 35 3) ?_
        refine pureA 2 (some 12) (mkB 35 7) ?_
        refine pureA 3 (some 13) (mkB 35 15) ?_
        refine takeA 4 (some 14) (mkB 35 31) ?_ rfl (Or.inl ⟨by rfl, by rintro w' ⟨s0, s1, s2, s3, s4, s5, s6, s7⟩; go_simp; with_reducible rfl⟩)
        refine oneA 5 (some 15) (mkB 35 63) (fun K hK => ?_)
        refine goes_ Tryz.func53 (by kernel_rfl) rfl #[.string ((rd_T79 l0 x3_1).f0)] (by rfl) rfl rfl (by (try simp only [List.map_toArray, List.map_cons, List.map_nil]); first | done | rfl | (simp only [List.length_drop, List.length_take]; rfl)) ?_
        with_reducible refine (caduceusref04_Simple.calls k1 ((rd_T79 l0 x3_1).f0) true _ A4.out).mono ?_
        rintro e w23 ⟨rfl, hb⟩
        refine ⟨_, rfl, ?_⟩
        have n0_ := Aside0.mk (below_step (bwA) hb); clear HB; have HB := n0_; clear n0_
        (try clear hb); (try clear hb2); (try clear hk); (try clear hi)
        refine hK.out _ _ ⟨crA hw340_0, crA hw340_1, crA hw340_2, crA hw340_3, crA hw342_0, crA hw342_1, crA hw342_2, crA hw342_3⟩ (fun hHeld => ?_)
        clear hK K
        refine normA ?_
        refine pureA 6 (some 16) (mkB 35 127) ?_
        refine pureA 7 (some 17) (mkB 35 255) ?_
        refine pureA 8 (some 18) (mkB 35 511) ?_
        refine pureA 9 (some 19) (mkB 35 1023) ?_
        refine pureA 10 (some 20) (mkB 35 2047) ?_
        refine pureA 11 (some 21) (mkB 35 4095) ?_
        refine takeA 12 (some 22) (mkB 35 8191) ?_ rfl (Or.inl ⟨by rfl, by rintro w' ⟨s0, s1, s2, s3, s4, s5, s6, s7⟩; go_simp; with_reducible rfl⟩)
        refine oneA 13 (some 23) (mkB 35 16383) (fun K hK => ?_)
        refine goes_ Tryz.func54 (by kernel_rfl) rfl #[.agg #[.int .i64 ((rd_T79 l0 x3_1).f1.f0), .int .i64 ((rd_T79 l0 x3_1).f1.f1), .string ((rd_T79 l0 x3_1).f1.f2)]] (by rfl) rfl rfl (by (try simp only [List.map_toArray, List.map_cons, List.map_nil]); first | done | rfl | (simp only [List.length_drop, List.length_take]; rfl)) ?_
        with_reducible refine (caduceusref03_Check.calls k1 ((rd_T79 l0 x3_1).f1.f0) ((rd_T79 l0 x3_1).f1.f1) ((rd_T79 l0 x3_1).f1.f2) true _ A6.out).mono ?_
        rintro e w24 ⟨rfl, hb⟩
        refine ⟨_, rfl, ?_⟩
        have n0_ := Aside0.mk (below_step (bwA) hb); clear HB; have HB := n0_; clear n0_
        (try clear hb); (try clear hb2); (try clear hk); (try clear hi)
        refine hK.out _ _ ⟨crA hw340_0, crA hw340_1, crA hw340_2, crA hw340_3, crA hw342_0, crA hw342_1, crA hw342_2, crA hw342_3⟩ (fun hHeld => ?_)
        clear hK K
        refine normA ?_
        refine pureA 14 (some 24) (mkB 35 32767) ?_
        refine pureA 15 (some 25) (mkB 35 65535) ?_
        refine pureA 16 (some 26) (mkB 35 131071) ?_
        refine pureA 17 (some 27) (mkB 35 262143) ?_
        refine pureA 18 (some 28) (mkB 35 524287) ?_
        refine pureA 19 (some 29) (mkB 35 1048575) ?_
        refine pureU 20 (some 30) (mkB 35 2097151) ?_
        refine pureU 21 (some 31) (mkB 35 4194303) ?_
        refine pureU 22 (some 32) (mkB 35 8388607) ?_
        refine pureU 23 (some 33) (mkB 35 16777215) ?_
        refine pureU 24 (some 34) (mkB 35 33554431) ?_
        refine pureU 25 (some 35) (mkB 35 67108863) ?_
        refine pureU 26 (some 36) (mkB 35 134217727) ?_
        refine pureU 27 (some 37) (mkB 35 268435455) ?_
        refine pureU 28 (some 38) (mkB 35 536870911) ?_
        refine pureU 29 (some 39) (mkB 35 1073741823) ?_
        refine pureU 30 (some 40) (mkB 35 2147483647) ?_
        refine pureU 31 (some 41) (mkB 35 4294967295) ?_
        refine pureU 32 (some 42) (mkB 35 8589934591) ?_
        refine pureA 33 (some 43) (mkB 35 17179869183) ?_
        refine pureA 34 (some 44) (mkB 35 34359738367) ?_
        refine done_ (done_of HT_.out (by kernel_rfl)) ?_
        try go_wp2
        go_roundg k1
        case measure => have := HK1.out; omega
        case rel => exact ⟨(wrap64 (x3_1 + 1)), (endS), H', ⟨by have := HK1.out; omega⟩, ⟨bwA⟩⟩
      ·replace c7 := Bool.eq_false_iff.mpr c7
       subst c7
       have H1 : (some false) = some r := by rw [if_neg (show ¬ (false = true) by decide)] at H; exact H
       clear H
       have H := H1
       clear H1
       obtain rfl := Option.some.inj H
       try go_wp2
       have n0_ := Aside0.mk (below_drew1 HB.out); clear HB; have HB := n0_; clear n0_
       have p340 : 0 ≤ (x3_1 : Int) := odA
       have q340 : x3_1 < (l0.length : Int) := odA
       obtain ⟨ad340, e340, hx340_0, hx340_1, hx340_2, hx340_3⟩ := at_T79 HR0.out x3_1 p340 q340
       have hw340_3 := hx340_3
       have hw340_2 := hx340_2
       have hw340_1 := hx340_1
       have hw340_0 := hx340_0
       cases e340
       replace hx340_0 := crA hx340_0
       replace hx340_1 := crA hx340_1
       replace hx340_2 := crA hx340_2
       replace hx340_3 := crA hx340_3
       replace p340 := eq_true p340
       replace q340 := eq_true q340
       have p342 : 0 ≤ (x3_1 : Int) := odA
       have q342 : x3_1 < (l0.length : Int) := odA
       obtain ⟨ad342, e342, hx342_0, hx342_1, hx342_2, hx342_3⟩ := at_T79 HR0.out x3_1 p342 q342
       have hw342_3 := hx342_3
       have hw342_2 := hx342_2
       have hw342_1 := hx342_1
       have hw342_0 := hx342_0
       obtain rfl : ad340 = ad342 := (by injection e342)
       replace hx342_0 := crA hx342_0
       replace hx342_1 := crA hx342_1
       replace hx342_2 := crA hx342_2
       replace hx342_3 := crA hx342_3
       replace p342 := eq_true p342
       replace q342 := eq_true q342
       refine start_ (n := 35) (S := fun w' => w'.cell? (ad340.add ((x3_1).toNat * 4)) = some (.string ((rd_T79 l0 x3_1).f0)) ∧ w'.cell? ⟨(ad340.add ((x3_1).toNat * 4)).block, (ad340.add ((x3_1).toNat * 4)).off + 1, none⟩ = some (.int .i64 ((rd_T79 l0 x3_1).f1.f0)) ∧ w'.cell? ⟨(ad340.add ((x3_1).toNat * 4)).block, (ad340.add ((x3_1).toNat * 4)).off + 2, none⟩ = some (.int .i64 ((rd_T79 l0 x3_1).f1.f1)) ∧ w'.cell? ⟨(ad340.add ((x3_1).toNat * 4)).block, (ad340.add ((x3_1).toNat * 4)).off + 3, none⟩ = some (.string ((rd_T79 l0 x3_1).f1.f2)) ∧ w'.cell? (ad340.add ((x3_1).toNat * 4)) = some (.string ((rd_T79 l0 x3_1).f0)) ∧ w'.cell? ⟨(ad340.add ((x3_1).toNat * 4)).block, (ad340.add ((x3_1).toNat * 4)).off + 1, none⟩ = some (.int .i64 ((rd_T79 l0 x3_1).f1.f0)) ∧ w'.cell? ⟨(ad340.add ((x3_1).toNat * 4)).block, (ad340.add ((x3_1).toNat * 4)).off + 2, none⟩ = some (.int .i64 ((rd_T79 l0 x3_1).f1.f1)) ∧ w'.cell? ⟨(ad340.add ((x3_1).toNat * 4)).block, (ad340.add ((x3_1).toNat * 4)).off + 3, none⟩ = some (.string ((rd_T79 l0 x3_1).f1.f2))) (ds := []) (mkB 35 0) (by kernel_rfl) rfl rfl ⟨crA hw340_0, crA hw340_1, crA hw340_2, crA hw340_3, crA hw342_0, crA hw342_1, crA hw342_2, crA hw342_3⟩ (fun hHeld => ?_); refine with_tabW caduceusref04_Attrs.tab4 caduceusref04_Attrs.bits4 (fun HT_ HW_ => ?_)
       generalize wr.drew = w25 at HB hx340_0 hx340_1 hx340_2 hx340_3 hx342_0 hx342_1 hx342_2 hx342_3 hHeld ⊢
       refine pureA 0 (some 10) (mkB 35 1) ?_
       refine pureA 1 (some 11) (mkB 35 3) ?_
       refine pureA 2 (some 12) (mkB 35 7) ?_
       refine pureA 3 (some 13) (mkB 35 15) ?_
       refine takeA 4 (some 14) (mkB 35 31) ?_ rfl (Or.inl ⟨by rfl, by rintro w' ⟨s0, s1, s2, s3, s4, s5, s6, s7⟩; go_simp; with_reducible rfl⟩)
       refine oneA 5 (some 15) (mkB 35 63) (fun K hK => ?_)
       refine goes_ Tryz.func53 (by kernel_rfl) rfl #[.string ((rd_T79 l0 x3_1).f0)] (by rfl) rfl rfl (by (try simp only [List.map_toArray, List.map_cons, List.map_nil]); first | done | rfl | (simp only [List.length_drop, List.length_take]; rfl)) ?_
       with_reducible refine (caduceusref04_Simple.calls k1 ((rd_T79 l0 x3_1).f0) true _ A4.out).mono ?_
       rintro e w26 ⟨rfl, hb⟩
       refine ⟨_, rfl, ?_⟩
       have n0_ := Aside0.mk (below_step (bwA) hb); clear HB; have HB := n0_; clear n0_
       (try clear hb); (try clear hb2); (try clear hk); (try clear hi)
       refine hK.out _ _ ⟨crA hw340_0, crA hw340_1, crA hw340_2, crA hw340_3, crA hw342_0, crA hw342_1, crA hw342_2, crA hw342_3⟩ (fun hHeld => ?_)
       clear hK K
       refine normA ?_
       refine pureA 6 (some 16) (mkB 35 127) ?_
       refine pureA 7 (some 17) (mkB 35 255) ?_
       refine pureA 8 (some 18) (mkB 35 511) ?_
       refine pureA 9 (some 19) (mkB 35 1023) ?_
       refine pureA 10 (some 20) (mkB 35 2047) ?_
       refine pureA 11 (some 21) (mkB 35 4095) ?_
       refine takeA 12 (some 22) (mkB 35 8191) ?_ rfl (Or.inl ⟨by rfl, by rintro w' ⟨s0, s1, s2, s3, s4, s5, s6, s7⟩; go_simp; with_reducible rfl⟩)
       refine oneA 13 (some 23) (mkB 35 16383) (fun K hK => ?_)
       refine goes_ Tryz.func54 (by kernel_rfl) rfl #[.agg #[.int .i64 ((rd_T79 l0 x3_1).f1.f0), .int .i64 ((rd_T79 l0 x3_1).f1.f1), .string ((rd_T79 l0 x3_1).f1.f2)]] (by rfl) rfl rfl (by (try simp only [List.map_toArray, List.map_cons, List.map_nil]); first | done | rfl | (simp only [List.length_drop, List.length_take]; rfl)) ?_
       with_reducible refine (caduceusref03_Check.calls k1 ((rd_T79 l0 x3_1).f1.f0) ((rd_T79 l0 x3_1).f1.f1) ((rd_T79 l0 x3_1).f1.f2) false _ A6.out).mono ?_
       rintro e w27 ⟨rfl, hb⟩
       refine ⟨_, rfl, ?_⟩
       have n0_ := Aside0.mk (below_step (bwA) hb); clear HB; have HB := n0_; clear n0_
       (try clear hb); (try clear hb2); (try clear hk); (try clear hi)
       refine hK.out _ _ ⟨crA hw340_0, crA hw340_1, crA hw340_2, crA hw340_3, crA hw342_0, crA hw342_1, crA hw342_2, crA hw342_3⟩ (fun hHeld => ?_)
       clear hK K
       refine normA ?_
       refine pureA 14 (some 24) (mkB 35 32767) ?_
       refine pureA 15 (some 25) (mkB 35 65535) ?_
       refine pureA 16 (some 26) (mkB 35 131071) ?_
       refine pureU 17 (some 27) (mkB 35 262143) ?_
       refine pureU 18 (some 28) (mkB 35 524287) ?_
       refine pureU 19 (some 29) (mkB 35 1048575) ?_
       refine pureU 20 (some 30) (mkB 35 2097151) ?_
       refine pureU 21 (some 31) (mkB 35 4194303) ?_
       refine pureU 22 (some 32) (mkB 35 8388607) ?_
       refine pureU 23 (some 33) (mkB 35 16777215) ?_
       refine pureU 24 (some 34) (mkB 35 33554431) ?_
       refine pureU 25 (some 35) (mkB 35 67108863) ?_
       refine pureU 26 (some 36) (mkB 35 134217727) ?_
       refine pureU 27 (some 37) (mkB 35 268435455) ?_
       refine pureU 28 (some 38) (mkB 35 536870911) ?_
       refine pureU 29 (some 39) (mkB 35 1073741823) ?_
       refine pureU 30 (some 40) (mkB 35 2147483647) ?_
       refine pureU 31 (some 41) (mkB 35 4294967295) ?_
       refine pureU 32 (some 42) (mkB 35 8589934591) ?_
       refine pureU 33 (some 43) (mkB 35 17179869183) ?_
       refine pureA 34 (some 44) (mkB 35 34359738367) ?_
       refine done_ (done_of HT_.out (by kernel_rfl)) ?_
       try go_wp2
       go_ret
       exact ⟨endA, bwA⟩
     ·replace c5 := Bool.eq_false_iff.mpr c5
      subst c5
      have H1 : (some false) = some r := by rw [if_neg (show ¬ (false = true) by decide)] at H; exact H
      clear H
      have H := H1
      clear H1
      obtain rfl := Option.some.inj H
      try go_wp2
      have n0_ := Aside0.mk (below_drew1 HB.out); clear HB; have HB := n0_; clear n0_
      have p340 : 0 ≤ (x3_1 : Int) := odA
      have q340 : x3_1 < (l0.length : Int) := odA
      obtain ⟨ad340, e340, hx340_0, hx340_1, hx340_2, hx340_3⟩ := at_T79 HR0.out x3_1 p340 q340
      have hw340_3 := hx340_3
      have hw340_2 := hx340_2
      have hw340_1 := hx340_1
      have hw340_0 := hx340_0
      cases e340
      replace hx340_0 := crA hx340_0
      replace hx340_1 := crA hx340_1
      replace hx340_2 := crA hx340_2
      replace hx340_3 := crA hx340_3
      replace p340 := eq_true p340
      replace q340 := eq_true q340
      refine start_ (n := 35) (S := fun w' => w'.cell? (ad340.add ((x3_1).toNat * 4)) = some (.string ((rd_T79 l0 x3_1).f0)) ∧ w'.cell? ⟨(ad340.add ((x3_1).toNat * 4)).block, (ad340.add ((x3_1).toNat * 4)).off + 1, none⟩ = some (.int .i64 ((rd_T79 l0 x3_1).f1.f0)) ∧ w'.cell? ⟨(ad340.add ((x3_1).toNat * 4)).block, (ad340.add ((x3_1).toNat * 4)).off + 2, none⟩ = some (.int .i64 ((rd_T79 l0 x3_1).f1.f1)) ∧ w'.cell? ⟨(ad340.add ((x3_1).toNat * 4)).block, (ad340.add ((x3_1).toNat * 4)).off + 3, none⟩ = some (.string ((rd_T79 l0 x3_1).f1.f2))) (ds := []) (mkB 35 0) (by kernel_rfl) rfl rfl ⟨crA hw340_0, crA hw340_1, crA hw340_2, crA hw340_3⟩ (fun hHeld => ?_); refine with_tabW caduceusref04_Attrs.tab4 caduceusref04_Attrs.bits4 (fun HT_ HW_ => ?_)
      generalize wr.drew = w28 at HB hx340_0 hx340_1 hx340_2 hx340_3 hHeld ⊢
      refine pureA 0 (some 10) (mkB 35 1) ?_
      refine pureA 1 (some 11) (mkB 35 3) ?_
      refine pureA 2 (some 12) (mkB 35 7) ?_
      refine pureA 3 (some 13) (mkB 35 15) ?_
      refine takeA 4 (some 14) (mkB 35 31) ?_ rfl (Or.inl ⟨by rfl, by rintro w' ⟨s0, s1, s2, s3⟩; go_simp; with_reducible rfl⟩)
      refine oneA 5 (some 15) (mkB 35 63) (fun K hK => ?_)
      refine goes_ Tryz.func53 (by kernel_rfl) rfl #[.string ((rd_T79 l0 x3_1).f0)] (by rfl) rfl rfl (by (try simp only [List.map_toArray, List.map_cons, List.map_nil]); first | done | rfl | (simp only [List.length_drop, List.length_take]; rfl)) ?_
      with_reducible refine (caduceusref04_Simple.calls k1 ((rd_T79 l0 x3_1).f0) false _ A4.out).mono ?_
      rintro e w29 ⟨rfl, hb⟩
      refine ⟨_, rfl, ?_⟩
      have n0_ := Aside0.mk (below_step (bwA) hb); clear HB; have HB := n0_; clear n0_
      (try clear hb); (try clear hb2); (try clear hk); (try clear hi)
      refine hK.out _ _ ⟨crA hw340_0, crA hw340_1, crA hw340_2, crA hw340_3⟩ (fun hHeld => ?_)
      clear hK K
      refine normA ?_
      refine pureA 6 (some 16) (mkB 35 127) ?_
      refine pureA 7 (some 17) (mkB 35 255) ?_
      refine pureU 8 (some 18) (mkB 35 511) ?_
      refine pureU 9 (some 19) (mkB 35 1023) ?_
      refine pureU 10 (some 20) (mkB 35 2047) ?_
      refine pureU 11 (some 21) (mkB 35 4095) ?_
      refine pureU 12 (some 22) (mkB 35 8191) ?_
      refine pureU 13 (some 23) (mkB 35 16383) ?_
      refine pureU 14 (some 24) (mkB 35 32767) ?_
      refine pureA 15 (some 25) (mkB 35 65535) ?_
      refine pureA 16 (some 26) (mkB 35 131071) ?_
      refine pureU 17 (some 27) (mkB 35 262143) ?_
      refine pureU 18 (some 28) (mkB 35 524287) ?_
      refine pureU 19 (some 29) (mkB 35 1048575) ?_
      refine pureU 20 (some 30) (mkB 35 2097151) ?_
      refine pureU 21 (some 31) (mkB 35 4194303) ?_
      refine pureU 22 (some 32) (mkB 35 8388607) ?_
      refine pureU 23 (some 33) (mkB 35 16777215) ?_
      refine pureU 24 (some 34) (mkB 35 33554431) ?_
      refine pureU 25 (some 35) (mkB 35 67108863) ?_
      refine pureU 26 (some 36) (mkB 35 134217727) ?_
      refine pureU 27 (some 37) (mkB 35 268435455) ?_
      refine pureU 28 (some 38) (mkB 35 536870911) ?_
      refine pureU 29 (some 39) (mkB 35 1073741823) ?_
      refine pureU 30 (some 40) (mkB 35 2147483647) ?_
      refine pureU 31 (some 41) (mkB 35 4294967295) ?_
      refine pureU 32 (some 42) (mkB 35 8589934591) ?_
      refine pureU 33 (some 43) (mkB 35 17179869183) ?_
      refine pureA 34 (some 44) (mkB 35 34359738367) ?_
      refine done_ (done_of HT_.out (by kernel_rfl)) ?_
      try go_wp2
      go_ret
      exact ⟨endA, bwA⟩
    ·rw [if_neg c3] at H
     exact absurd H (by simp)
   ·rw [if_neg c2] at H
    have c2b0 : decide (x3_1 < (l0.length : Int)) = false := decide_eq_false c2
    clear c2
    obtain rfl := Option.some.inj H
    go_wp2
    go_ret
    exact ⟨endA, bwA⟩

end Go.Proofs.YtnbbajiabbmdmaaGreatDoor.A
