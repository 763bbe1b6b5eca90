-- By drv.py, the session's own driver round the kit's print: the machine's side of the laws, function by function. Not trusted: Lean checks it.
import Derived.Test.YtbbfggfiknbdmaaGreatDoorAx0
import Derived.Test.YtbbfggfiknbdmaaGreatDoorAx19
import Derived.Test.YtbbfggfiknbdmaaGreatDoorAx21
namespace Go.Proofs.YtbbfggfiknbdmaaGreatDoor.A
open Go.RowKit Go.Proofs.YtbbfggfiknbdmaaGreatDoorW.PrintWords Go.Proofs.YtbbfggfiknbdmaaGreatDoorW.PrintLast Go.Proofs.YtbbfggfiknbdmaaGreatDoorW.PrintMore
attribute [local go_sem] max2_int min2_int max_two min_two max_three min_three max_four min_four   -- for this text's walks alone
set_option linter.unusedVariables false
set_option linter.unusedSimpArgs false

/-! ### caduceusref04_Check: function 10 -/
def caduceusref04_Check.l0 : Nat → List (S52) → Int → Option (Bool)
 | 0, _, _ => none
 | k + 1, x0, x3 => if x3 < (x0.length : Int) then (if 0 ≤ x3 then ((caduceusref04_may.f k ((rd_T52 x0 x3).f0) ((rd_T52 x0 x3).f1) ((rd_T52 x0 x3).f2)).bind fun t353 => (if t353 = true then (if x3 > 0 then (if 0 ≤ (wrap64 (x3 - 1)) then (if (wrap64 (x3 - 1)) < (x0.length : Int) then ((caduceusref02_Compare.f k ((rd_T52 x0 (wrap64 (x3 - 1))).f0) ((rd_T52 x0 x3).f0)).bind fun t356 => (if t356 ≥ 0 then (some false) else (caduceusref04_Check.l0 k x0 (wrap64 (x3 + 1))))) else (none)) else (none)) else (caduceusref04_Check.l0 k x0 (wrap64 (x3 + 1)))) else (some false))) else (none)) else (some (decide ((x0.length : Int) ≤ 24)))
def caduceusref04_Check.f (k : Nat) (l0 : List (S52)) : Option (Bool) := caduceusref04_Check.l0 k l0 0
theorem caduceusref04_Check.mono_l : ∀ k, (∀ y0 y1, LeO (caduceusref04_Check.l0 k y0 y1) (caduceusref04_Check.l0 (k + 1) y0 y1))
 | 0 => fun _ _ r h => by simp [caduceusref04_Check.l0] at h
 | k + 1 => by
  have ih0 := caduceusref04_Check.mono_l k
  ·intro y0 y1
   unfold caduceusref04_Check.l0
   repeat' first
   | (with_reducible exact ih0 _ _)
   | (with_reducible exact caduceusref02_Compare.mono _ _ _)
   | (with_reducible exact caduceusref04_may.mono _ _ _ _)
   | (with_reducible exact LeO.refl _)
   | (with_reducible exact LeO.none _)
   | (with_reducible refine LeO.ite ?_ ?_)
   | (with_reducible refine LeO.bind ?_ (fun _ => ?_))
   | exact ih0 _ _
   | exact caduceusref02_Compare.mono _ _ _
   | exact caduceusref04_may.mono _ _ _ _
   | exact LeO.none _
   | refine LeO.ite ?_ ?_
   | refine LeO.bind ?_ (fun _ => ?_)
theorem caduceusref04_Check.mono : ∀ a0 k, LeO (caduceusref04_Check.f k a0) (caduceusref04_Check.f (k + 1) a0) := by
 intro a0 k
 have ih0 := caduceusref04_Check.mono_l k
 unfold caduceusref04_Check.f
 repeat' first
   | (with_reducible exact ih0 _ _)
   | (with_reducible exact caduceusref02_Compare.mono _ _ _)
   | (with_reducible exact caduceusref04_may.mono _ _ _ _)
   | (with_reducible exact LeO.refl _)
   | (with_reducible exact LeO.none _)
   | (with_reducible refine LeO.ite ?_ ?_)
   | (with_reducible refine LeO.bind ?_ (fun _ => ?_))
   | exact ih0 _ _
   | exact caduceusref02_Compare.mono _ _ _
   | exact caduceusref04_may.mono _ _ _ _
   | exact LeO.none _
   | refine LeO.ite ?_ ?_
   | refine LeO.bind ?_ (fun _ => ?_)
def caduceusref04_Check.T4 : Bool × List (List Nat × List Nat) := (true, [([], []), ([], []), ([0, 1], [0, 1]), ([2], [2]), ([3], [3]), ([4], [4]), ([5, 4], [5]), ([6], [6]), ([7, 6], [6, 7]), ([8, 6, 6], [6, 8]), ([9], [9]), ([9], [9]), ([11, 9], [9, 11]), ([10, 12, 9], [9, 10, 12]), ([13, 9], [9, 13]), ([14, 9], [9, 14]), ([9], [9]), ([9], [9]), ([16, 17, 9], [9, 16, 17]), ([18, 9], [9, 18]), ([19, 9], [9, 19]), ([15, 20, 9, 9], [9, 15, 20]), ([21, 9], [9, 21]), ([9, 22, 6], [6, 9, 22]), ([6, 23], [6, 23])])
def caduceusref04_Check.B4 : List Nat := [0, 0, 3, 7, 15, 31, 63, 127, 255, 511, 1023, 1023, 3071, 8191, 16383, 32767, 1023, 1023, 197631, 459775, 984063, 2097151, 4194303, 8388607, 16777215]
theorem caduceusref04_Check.tab4 : rtab .any (opsOf Tryz.f10 4) = caduceusref04_Check.T4 := by kernel_rfl
theorem caduceusref04_Check.bits4 : waitsOk caduceusref04_Check.T4.2 caduceusref04_Check.B4 = true := by kernel_rfl
set_option maxHeartbeats 8000000 in
set_option maxRecDepth 100000 in
theorem caduceusref04_Check.calls (k : Nat) (A0 : Option Addr) (c0 : Nat) (l0 : List (S52)) (r : Bool) (w : World) (hr0 : Kd.C k52 w A0 l0.length l0) (hc0 : l0.length ≤ c0) (h : caduceusref04_Check.f k l0 = some r) :
  Calls Tryz.prog 10 #[.slice A0 l0.length c0] w fun e w' => e = .returned (.bool r) ∧ Below w.heap.size w w' := by
 have hu52 := Tryz.underlying52
 have HR0 := Aside0.mk hr0
 have HC0 := Aside0.mk hc0
 clear hr0 hc0
 have HB := Aside0.mk (Below.refl w.heap.size w)
 have H : (caduceusref04_Check.l0 k l0 0) = some r := h
 clear h
 have H' := Aside0.mk H
 clear H
 go_enter Tryz.func10, Tryz.ntmps10
 go_wp2
 go_loopg [3] k (fun kq v3 w' => ∃ (x3_1 : Int), v3 = .int .i64 x3_1 ∧ Aside0 (caduceusref04_Check.l0 kq l0 x3_1 = some r) ∧ Aside0 (kq ≤ k) ∧ Aside0 (Below w.heap.size w w'))
 case atStart => exact ⟨(0), (endS), H', ⟨Nat.le_refl _⟩, ⟨bwA⟩⟩
 case round =>
  clear H'
  try clear c1
  obtain ⟨x3_1, rfl, HA, HK1, HB⟩ := hrel
  cases gk with
  | zero => exact absurd HA.out (by simp [caduceusref04_Check.l0])
  | succ k1 =>
   have H := HA.out
   clear HA
   simp only [caduceusref04_Check.l0] at H
   by_cases c2 : x3_1 < (l0.length : Int)
   ·rw [if_pos c2] at H
    have c2b0 : decide (x3_1 < (l0.length : Int)) = true := decide_eq_true c2
    clear c2
    by_cases c3 : 0 ≤ x3_1
    ·rw [if_pos c3] at H
     have c3b0 : decide (0 ≤ x3_1) = true := decide_eq_true c3
     clear c3
     replace H := Option.bind_eq_some_iff.mp H
     obtain ⟨t353, A40, H⟩ := H
     replace H : (if t353 = true then (if x3_1 > 0 then (if 0 ≤ (wrap64 (x3_1 - 1)) then (if (wrap64 (x3_1 - 1)) < (l0.length : Int) then ((caduceusref02_Compare.f k1 ((rd_T52 l0 (wrap64 (x3_1 - 1))).f0) ((rd_T52 l0 x3_1).f0)).bind fun t356 => (if t356 ≥ 0 then (some false) else (caduceusref04_Check.l0 k1 l0 (wrap64 (x3_1 + 1))))) else (none)) else (none)) else (caduceusref04_Check.l0 k1 l0 (wrap64 (x3_1 + 1)))) else (some false)) = some r := H
     have A4 := Aside0.mk A40
     clear A40
     by_cases c5 : t353 = true
     ·subst c5
      have H1 : (if x3_1 > 0 then (if 0 ≤ (wrap64 (x3_1 - 1)) then (if (wrap64 (x3_1 - 1)) < (l0.length : Int) then ((caduceusref02_Compare.f k1 ((rd_T52 l0 (wrap64 (x3_1 - 1))).f0) ((rd_T52 l0 x3_1).f0)).bind fun t356 => (if t356 ≥ 0 then (some false) else (caduceusref04_Check.l0 k1 l0 (wrap64 (x3_1 + 1))))) else (none)) else (none)) else (caduceusref04_Check.l0 k1 l0 (wrap64 (x3_1 + 1)))) = some r := by rw [if_pos rfl] at H; exact H
      clear H
      have H := H1
      clear H1
      by_cases c6 : x3_1 > 0
      ·rw [if_pos c6] at H
       have c6b0 : decide (0 < x3_1) = true := decide_eq_true c6
       clear c6
       obtain ⟨ji7, hji7⟩ : ∃ j_ : Int, (wrap64 (x3_1 - 1)) = j_ := ⟨_, rfl⟩
       replace H : (if 0 ≤ (ji7) then (if (ji7) < (l0.length : Int) then ((caduceusref02_Compare.f k1 ((rd_T52 l0 (ji7)).f0) ((rd_T52 l0 x3_1).f0)).bind fun t356 => (if t356 ≥ 0 then (some false) else (caduceusref04_Check.l0 k1 l0 (wrap64 (x3_1 + 1))))) else (none)) else (none)) = some r := by first | (rw [hji7] at H; exact H) | (simp only [hji7] at H ⊢; exact H)
       (try rw [hji7] at A4)
       have hji7w : (IntKind.i64.wrap (x3_1 - 1)) = ji7 := (i64_w _).trans hji7
       by_cases c8 : 0 ≤ (ji7)
       ·rw [if_pos c8] at H
        have c8b0 : decide (0 ≤ (ji7)) = true := decide_eq_true c8
        clear c8
        by_cases c9 : (ji7) < (l0.length : Int)
        ·rw [if_pos c9] at H
         have c9b0 : decide ((ji7) < (l0.length : Int)) = true := decide_eq_true c9
         clear c9
         replace H := Option.bind_eq_some_iff.mp H
         obtain ⟨t356, A100, H⟩ := H
         replace H : (if t356 ≥ 0 then (some false) else (caduceusref04_Check.l0 k1 l0 (wrap64 (x3_1 + 1)))) = some r := H
         have A10 := Aside0.mk A100
         clear A100
         by_cases c11 : t356 ≥ 0
         ·rw [if_pos c11] at H
          have c11b0 : decide (0 ≤ t356) = true := decide_eq_true c11
          clear c11
          obtain rfl := Option.some.inj H
          try go_wp2
          have n0_ := Aside0.mk (below_drew1 HB.out); clear HB; have HB := n0_; clear n0_
          have p352 : 0 ≤ (x3_1 : Int) := odA
          have q352 : x3_1 < (l0.length : Int) := odA
          obtain ⟨ad352, e352, hx352_0, hx352_1, hx352_2⟩ := at_T52 HR0.out x3_1 p352 q352
          have hw352_2 := hx352_2
          have hw352_1 := hx352_1
          have hw352_0 := hx352_0
          cases e352
          replace hx352_0 := crA hx352_0
          replace hx352_1 := crA hx352_1
          replace hx352_2 := crA hx352_2
          replace p352 := eq_true p352
          replace q352 := eq_true q352
          have p354 : 0 ≤ ((ji7) : Int) := odA
          have q354 : (ji7) < (l0.length : Int) := odA
          obtain ⟨ad354, e354, hx354_0, hx354_1, hx354_2⟩ := at_T52 HR0.out (ji7) p354 q354
          have hw354_2 := hx354_2
          have hw354_1 := hx354_1
          have hw354_0 := hx354_0
          obtain rfl : ad352 = ad354 := (by injection e354)
          replace hx354_0 := crA hx354_0
          replace hx354_1 := crA hx354_1
          replace hx354_2 := crA hx354_2
          replace p354 := eq_true p354
          replace q354 := eq_true q354
          have p355 : 0 ≤ (x3_1 : Int) := odA
          have q355 : x3_1 < (l0.length : Int) := odA
          obtain ⟨ad355, e355, hx355_0, hx355_1, hx355_2⟩ := at_T52 HR0.out x3_1 p355 q355
          have hw355_2 := hx355_2
          have hw355_1 := hx355_1
          have hw355_0 := hx355_0
          obtain rfl : ad352 = ad355 := (by injection e355)
          replace hx355_0 := crA hx355_0
          replace hx355_1 := crA hx355_1
          replace hx355_2 := crA hx355_2
          replace p355 := eq_true p355
          replace q355 := eq_true q355
          refine start_ (n := 25) (S := fun w' => w'.cell? (ad352.add ((x3_1).toNat * 3)) = some (.string ((rd_T52 l0 x3_1).f0)) ∧ w'.cell? ⟨(ad352.add ((x3_1).toNat * 3)).block, (ad352.add ((x3_1).toNat * 3)).off + 1, none⟩ = some (.int .i64 ((rd_T52 l0 x3_1).f1)) ∧ w'.cell? ⟨(ad352.add ((x3_1).toNat * 3)).block, (ad352.add ((x3_1).toNat * 3)).off + 2, none⟩ = some (.bool ((rd_T52 l0 x3_1).f2)) ∧ w'.cell? (ad352.add (((ji7)).toNat * 3)) = some (.string ((rd_T52 l0 (ji7)).f0)) ∧ w'.cell? ⟨(ad352.add (((ji7)).toNat * 3)).block, (ad352.add (((ji7)).toNat * 3)).off + 1, none⟩ = some (.int .i64 ((rd_T52 l0 (ji7)).f1)) ∧ w'.cell? ⟨(ad352.add (((ji7)).toNat * 3)).block, (ad352.add (((ji7)).toNat * 3)).off + 2, none⟩ = some (.bool ((rd_T52 l0 (ji7)).f2)) ∧ w'.cell? (ad352.add ((x3_1).toNat * 3)) = some (.string ((rd_T52 l0 x3_1).f0)) ∧ w'.cell? ⟨(ad352.add ((x3_1).toNat * 3)).block, (ad352.add ((x3_1).toNat * 3)).off + 1, none⟩ = some (.int .i64 ((rd_T52 l0 x3_1).f1)) ∧ w'.cell? ⟨(ad352.add ((x3_1).toNat * 3)).block, (ad352.add ((x3_1).toNat * 3)).off + 2, none⟩ = some (.bool ((rd_T52 l0 x3_1).f2))) (ds := []) (mkB 25 0) (by kernel_rfl) rfl rfl ⟨crA hw352_0, crA hw352_1, crA hw352_2, crA hw354_0, crA hw354_1, crA hw354_2, crA hw355_0, crA hw355_1, crA hw355_2⟩ (fun hHeld => ?_); refine with_tabW caduceusref04_Check.tab4 caduceusref04_Check.bits4 (fun HT_ HW_ => ?_)
          generalize wr.drew = w12 at HB hx352_0 hx352_1 hx352_2 hx354_0 hx354_1 hx354_2 hx355_0 hx355_1 hx355_2 hHeld ⊢
          refine pureA 0 (some 10) (mkB 25 1) ?_
          refine pureA 1 (some 11) (mkB 25 3) ?_
          refine pureA 2 (some 12) (mkB 25 7) ?_
          refine takeA 3 (some 13) (mkB 25 15) ?_ rfl (Or.inl ⟨by rfl, by rintro w' ⟨s0, s1, s2, s3, s4, s5, s6, s7, s8⟩; go_simp; with_reducible rfl⟩)
          refine oneA 4 (some 14) (mkB 25 31) (fun K hK => ?_)
          refine goes_ Tryz.func23 (by kernel_rfl) rfl #[.agg #[.string ((rd_T52 l0 x3_1).f0), .int .i64 ((rd_T52 l0 x3_1).f1), .bool ((rd_T52 l0 x3_1).f2)]] (by rfl) rfl rfl (by (try simp only [List.map_toArray, List.map_cons, List.map_nil]); first | done | rfl | (simp only [List.length_drop, List.length_take]; rfl)) ?_
          with_reducible refine (caduceusref04_may.calls k1 ((rd_T52 l0 x3_1).f0) ((rd_T52 l0 x3_1).f1) ((rd_T52 l0 x3_1).f2) true _ A4.out).mono ?_
          rintro e w13 ⟨rfl, hb⟩
          refine ⟨_, rfl, ?_⟩
          have n0_ := Aside0.mk (below_step (bwA) hb); clear HB; have HB := n0_; clear n0_
          (try clear hb); (try clear hb2); (try clear hk); (try clear hi)
          refine hK.out _ _ ⟨crA hw352_0, crA hw352_1, crA hw352_2, crA hw354_0, crA hw354_1, crA hw354_2, crA hw355_0, crA hw355_1, crA hw355_2⟩ (fun hHeld => ?_)
          clear hK K
          refine normA ?_
          refine pureA 5 (some 15) (mkB 25 63) ?_
          refine pureA 6 (some 16) (mkB 25 127) ?_
          refine pureA 7 (some 17) (mkB 25 255) ?_
          refine pureA 8 (some 18) (mkB 25 511) ?_
          refine pureA 9 (some 19) (mkB 25 1023) ?_
          refine pureA 10 (some 20) (mkB 25 2047) ?_
          refine pureA 11 (some 21) (mkB 25 4095) ?_
          refine pureA 12 (some 22) (mkB 25 8191) ?_
          refine pureA 13 (some 23) (mkB 25 16383) ?_
          refine pureA 14 (some 24) (mkB 25 32767) ?_
          refine pureA 16 (some 26) (mkB 25 98303) ?_
          refine pureA 17 (some 27) (mkB 25 229375) ?_
          refine pureA 18 (some 28) (mkB 25 491519) ?_
          refine pureA 19 (some 29) (mkB 25 1015807) ?_
          refine takeA 15 (some 25) (mkB 25 1048575) ?_ rfl (Or.inl ⟨by rfl, by rintro w' ⟨s0, s1, s2, s3, s4, s5, s6, s7, s8⟩; go_simp; with_reducible rfl⟩)
          refine takeA 20 (some 30) (mkB 25 2097151) ?_ rfl (Or.inl ⟨by rfl, by rintro w' ⟨s0, s1, s2, s3, s4, s5, s6, s7, s8⟩; go_simp; with_reducible rfl⟩)
          refine oneA 21 (some 31) (mkB 25 4194303) (fun K hK => ?_)
          refine goes_ Tryz.func25 (by kernel_rfl) rfl #[.string ((rd_T52 l0 (ji7)).f0), .string ((rd_T52 l0 x3_1).f0)] (by rfl) rfl rfl (by (try simp only [List.map_toArray, List.map_cons, List.map_nil]); first | done | (simp only [hji7]; rfl) | rfl | (simp only [List.length_drop, List.length_take]; rfl)) ?_
          with_reducible refine (caduceusref02_Compare.calls k1 ((rd_T52 l0 (ji7)).f0) ((rd_T52 l0 x3_1).f0) t356 _ A10.out).mono ?_
          rintro e w14 ⟨rfl, hb⟩
          refine ⟨_, rfl, ?_⟩
          have n0_ := Aside0.mk (below_step (bwA) hb); clear HB; have HB := n0_; clear n0_
          (try clear hb); (try clear hb2); (try clear hk); (try clear hi)
          refine hK.out _ _ ⟨crA hw352_0, crA hw352_1, crA hw352_2, crA hw354_0, crA hw354_1, crA hw354_2, crA hw355_0, crA hw355_1, crA hw355_2⟩ (fun hHeld => ?_)
          clear hK K
          refine normA ?_
          refine pureA 22 (some 32) (mkB 25 8388607) ?_
          refine pureA 23 (some 33) (mkB 25 16777215) ?_
          refine pureA 24 (some 34) (mkB 25 33554431) ?_
          refine done_ (done_of HT_.out (by kernel_rfl)) ?_
          try go_wp2
          go_ret
          exact ⟨by first | rfl | (rw [ne_nil_b]; (first | done | rfl)) | (simp [errW_none, errW_some] <;> rfl) | (simp only [← hji7]; first | rfl | (simp [errW_none, errW_some] <;> rfl)) | (simp [*, errW_none, errW_some] <;> rfl), bwA⟩
         ·rw [if_neg c11] at H
          have c11b0 : decide (0 ≤ t356) = false := decide_eq_false c11
          clear c11
          have H' := Aside0.mk H
          clear H
          try go_wp2
          have n0_ := Aside0.mk (below_drew1 HB.out); clear HB; have HB := n0_; clear n0_
          have p352 : 0 ≤ (x3_1 : Int) := odA
          have q352 : x3_1 < (l0.length : Int) := odA
          obtain ⟨ad352, e352, hx352_0, hx352_1, hx352_2⟩ := at_T52 HR0.out x3_1 p352 q352
          have hw352_2 := hx352_2
          have hw352_1 := hx352_1
          have hw352_0 := hx352_0
          cases e352
          replace hx352_0 := crA hx352_0
          replace hx352_1 := crA hx352_1
          replace hx352_2 := crA hx352_2
          replace p352 := eq_true p352
          replace q352 := eq_true q352
          have p354 : 0 ≤ ((ji7) : Int) := odA
          have q354 : (ji7) < (l0.length : Int) := odA
          obtain ⟨ad354, e354, hx354_0, hx354_1, hx354_2⟩ := at_T52 HR0.out (ji7) p354 q354
          have hw354_2 := hx354_2
          have hw354_1 := hx354_1
          have hw354_0 := hx354_0
          obtain rfl : ad352 = ad354 := (by injection e354)
          replace hx354_0 := crA hx354_0
          replace hx354_1 := crA hx354_1
          replace hx354_2 := crA hx354_2
          replace p354 := eq_true p354
          replace q354 := eq_true q354
          have p355 : 0 ≤ (x3_1 : Int) := odA
          have q355 : x3_1 < (l0.length : Int) := odA
          obtain ⟨ad355, e355, hx355_0, hx355_1, hx355_2⟩ := at_T52 HR0.out x3_1 p355 q355
          have hw355_2 := hx355_2
          have hw355_1 := hx355_1
          have hw355_0 := hx355_0
          obtain rfl : ad352 = ad355 := (by injection e355)
          replace hx355_0 := crA hx355_0
          replace hx355_1 := crA hx355_1
          replace hx355_2 := crA hx355_2
          replace p355 := eq_true p355
          replace q355 := eq_true q355
          refine start_ (n := 25) (S := fun w' => w'.cell? (ad352.add ((x3_1).toNat * 3)) = some (.string ((rd_T52 l0 x3_1).f0)) ∧ w'.cell? ⟨(ad352.add ((x3_1).toNat * 3)).block, (ad352.add ((x3_1).toNat * 3)).off + 1, none⟩ = some (.int .i64 ((rd_T52 l0 x3_1).f1)) ∧ w'.cell? ⟨(ad352.add ((x3_1).toNat * 3)).block, (ad352.add ((x3_1).toNat * 3)).off + 2, none⟩ = some (.bool ((rd_T52 l0 x3_1).f2)) ∧ w'.cell? (ad352.add (((ji7)).toNat * 3)) = some (.string ((rd_T52 l0 (ji7)).f0)) ∧ w'.cell? ⟨(ad352.add (((ji7)).toNat * 3)).block, (ad352.add (((ji7)).toNat * 3)).off + 1, none⟩ = some (.int .i64 ((rd_T52 l0 (ji7)).f1)) ∧ w'.cell? ⟨(ad352.add (((ji7)).toNat * 3)).block, (ad352.add (((ji7)).toNat * 3)).off + 2, none⟩ = some (.bool ((rd_T52 l0 (ji7)).f2)) ∧ w'.cell? (ad352.add ((x3_1).toNat * 3)) = some (.string ((rd_T52 l0 x3_1).f0)) ∧ w'.cell? ⟨(ad352.add ((x3_1).toNat * 3)).block, (ad352.add ((x3_1).toNat * 3)).off + 1, none⟩ = some (.int .i64 ((rd_T52 l0 x3_1).f1)) ∧ w'.cell? ⟨(ad352.add ((x3_1).toNat * 3)).block, (ad352.add ((x3_1).toNat * 3)).off + 2, none⟩ = some (.bool ((rd_T52 l0 x3_1).f2))) (ds := []) (mkB 25 0) (by kernel_rfl) rfl rfl ⟨crA hw352_0, crA hw352_1, crA hw352_2, crA hw354_0, crA hw354_1, crA hw354_2, crA hw355_0, crA hw355_1, crA hw355_2⟩ (fun hHeld => ?_); refine with_tabW caduceusref04_Check.tab4 caduceusref04_Check.bits4 (fun HT_ HW_ => ?_)
          generalize wr.drew = w15 at HB hx352_0 hx352_1 hx352_2 hx354_0 hx354_1 hx354_2 hx355_0 hx355_1 hx355_2 hHeld ⊢
          refine pureA 0 (some 10) (mkB 25 1) ?_
          refine pureA 1 (some 11) (mkB 25 3) ?_
          refine pureA 2 (some 12) (mkB 25 7) ?_
          refine takeA 3 (some 13) (mkB 25 15) ?_ rfl (Or.inl ⟨by rfl, by rintro w' ⟨s0, s1, s2, s3, s4, s5, s6, s7, s8⟩; go_simp; with_reducible rfl⟩)
          refine oneA 4 (some 14) (mkB 25 31) (fun K hK => ?_)
          refine goes_ Tryz.func23 (by kernel_rfl) rfl #[.agg #[.string ((rd_T52 l0 x3_1).f0), .int .i64 ((rd_T52 l0 x3_1).f1), .bool ((rd_T52 l0 x3_1).f2)]] (by rfl) rfl rfl (by (try simp only [List.map_toArray, List.map_cons, List.map_nil]); first | done | rfl | (simp only [List.length_drop, List.length_take]; rfl)) ?_
          with_reducible refine (caduceusref04_may.calls k1 ((rd_T52 l0 x3_1).f0) ((rd_T52 l0 x3_1).f1) ((rd_T52 l0 x3_1).f2) true _ A4.out).mono ?_
          rintro e w16 ⟨rfl, hb⟩
          refine ⟨_, rfl, ?_⟩
          have n0_ := Aside0.mk (below_step (bwA) hb); clear HB; have HB := n0_; clear n0_
          (try clear hb); (try clear hb2); (try clear hk); (try clear hi)
          refine hK.out _ _ ⟨crA hw352_0, crA hw352_1, crA hw352_2, crA hw354_0, crA hw354_1, crA hw354_2, crA hw355_0, crA hw355_1, crA hw355_2⟩ (fun hHeld => ?_)
          clear hK K
          refine normA ?_
          refine pureA 5 (some 15) (mkB 25 63) ?_
          refine pureA 6 (some 16) (mkB 25 127) ?_
          refine pureA 7 (some 17) (mkB 25 255) ?_
          refine pureA 8 (some 18) (mkB 25 511) ?_
          refine pureA 9 (some 19) (mkB 25 1023) ?_
          refine pureA 10 (some 20) (mkB 25 2047) ?_
          refine pureA 11 (some 21) (mkB 25 4095) ?_
          refine pureA 12 (some 22) (mkB 25 8191) ?_
          refine pureA 13 (some 23) (mkB 25 16383) ?_
          refine pureA 14 (some 24) (mkB 25 32767) ?_
          refine pureA 16 (some 26) (mkB 25 98303) ?_
          refine pureA 17 (some 27) (mkB 25 229375) ?_
          refine pureA 18 (some 28) (mkB 25 491519) ?_
          refine pureA 19 (some 29) (mkB 25 1015807) ?_
          refine takeA 15 (some 25) (mkB 25 1048575) ?_ rfl (Or.inl ⟨by rfl, by rintro w' ⟨s0, s1, s2, s3, s4, s5, s6, s7, s8⟩; go_simp; with_reducible rfl⟩)
          refine takeA 20 (some 30) (mkB 25 2097151) ?_ rfl (Or.inl ⟨by rfl, by rintro w' ⟨s0, s1, s2, s3, s4, s5, s6, s7, s8⟩; go_simp; with_reducible rfl⟩)
          refine oneA 21 (some 31) (mkB 25 4194303) (fun K hK => ?_)
          refine goes_ Tryz.func25 (by kernel_rfl) rfl #[.string ((rd_T52 l0 (ji7)).f0), .string ((rd_T52 l0 x3_1).f0)] (by rfl) rfl rfl (by (try simp only [List.map_toArray, List.map_cons, List.map_nil]); first | done | (simp only [hji7]; rfl) | rfl | (simp only [List.length_drop, List.length_take]; rfl)) ?_
          with_reducible refine (caduceusref02_Compare.calls k1 ((rd_T52 l0 (ji7)).f0) ((rd_T52 l0 x3_1).f0) t356 _ A10.out).mono ?_
          rintro e w17 ⟨rfl, hb⟩
          refine ⟨_, rfl, ?_⟩
          have n0_ := Aside0.mk (below_step (bwA) hb); clear HB; have HB := n0_; clear n0_
          (try clear hb); (try clear hb2); (try clear hk); (try clear hi)
          refine hK.out _ _ ⟨crA hw352_0, crA hw352_1, crA hw352_2, crA hw354_0, crA hw354_1, crA hw354_2, crA hw355_0, crA hw355_1, crA hw355_2⟩ (fun hHeld => ?_)
          clear hK K
          refine normA ?_
          refine pureA 22 (some 32) (mkB 25 8388607) ?_
          refine pureA 23 (some 33) (mkB 25 16777215) ?_
          refine pureA 24 (some 34) (mkB 25 33554431) ?_
          refine done_ (done_of HT_.out (by kernel_rfl)) ?_
          try go_wp2
          go_roundg k1
          case measure => have := HK1.out; omega
          case rel => exact ⟨(wrap64 (x3_1 + 1)), (endS), H', ⟨by have := HK1.out; omega⟩, ⟨bwA⟩⟩
        ·rw [if_neg c9] at H
         exact absurd H (by simp)
       ·rw [if_neg c8] at H
        exact absurd H (by simp)
      ·rw [if_neg c6] at H
       have c6b0 : decide (0 < x3_1) = false := decide_eq_false c6
       clear c6
       have H' := Aside0.mk H
       clear H
       try go_wp2
       have n0_ := Aside0.mk (below_drew1 HB.out); clear HB; have HB := n0_; clear n0_
       have p352 : 0 ≤ (x3_1 : Int) := odA
       have q352 : x3_1 < (l0.length : Int) := odA
       obtain ⟨ad352, e352, hx352_0, hx352_1, hx352_2⟩ := at_T52 HR0.out x3_1 p352 q352
       have hw352_2 := hx352_2
       have hw352_1 := hx352_1
       have hw352_0 := hx352_0
       cases e352
       replace hx352_0 := crA hx352_0
       replace hx352_1 := crA hx352_1
       replace hx352_2 := crA hx352_2
       replace p352 := eq_true p352
       replace q352 := eq_true q352
       refine start_ (n := 25) (S := fun w' => w'.cell? (ad352.add ((x3_1).toNat * 3)) = some (.string ((rd_T52 l0 x3_1).f0)) ∧ w'.cell? ⟨(ad352.add ((x3_1).toNat * 3)).block, (ad352.add ((x3_1).toNat * 3)).off + 1, none⟩ = some (.int .i64 ((rd_T52 l0 x3_1).f1)) ∧ w'.cell? ⟨(ad352.add ((x3_1).toNat * 3)).block, (ad352.add ((x3_1).toNat * 3)).off + 2, none⟩ = some (.bool ((rd_T52 l0 x3_1).f2))) (ds := []) (mkB 25 0) (by kernel_rfl) rfl rfl ⟨crA hw352_0, crA hw352_1, crA hw352_2⟩ (fun hHeld => ?_); refine with_tabW caduceusref04_Check.tab4 caduceusref04_Check.bits4 (fun HT_ HW_ => ?_)
       generalize wr.drew = w18 at HB hx352_0 hx352_1 hx352_2 hHeld ⊢
       refine pureA 0 (some 10) (mkB 25 1) ?_
       refine pureA 1 (some 11) (mkB 25 3) ?_
       refine pureA 2 (some 12) (mkB 25 7) ?_
       refine takeA 3 (some 13) (mkB 25 15) ?_ rfl (Or.inl ⟨by rfl, by rintro w' ⟨s0, s1, s2⟩; go_simp; with_reducible rfl⟩)
       refine oneA 4 (some 14) (mkB 25 31) (fun K hK => ?_)
       refine goes_ Tryz.func23 (by kernel_rfl) rfl #[.agg #[.string ((rd_T52 l0 x3_1).f0), .int .i64 ((rd_T52 l0 x3_1).f1), .bool ((rd_T52 l0 x3_1).f2)]] (by rfl) rfl rfl (by (try simp only [List.map_toArray, List.map_cons, List.map_nil]); first | done | rfl | (simp only [List.length_drop, List.length_take]; rfl)) ?_
       with_reducible refine (caduceusref04_may.calls k1 ((rd_T52 l0 x3_1).f0) ((rd_T52 l0 x3_1).f1) ((rd_T52 l0 x3_1).f2) true _ A4.out).mono ?_
       rintro e w19 ⟨rfl, hb⟩
       refine ⟨_, rfl, ?_⟩
       have n0_ := Aside0.mk (below_step (bwA) hb); clear HB; have HB := n0_; clear n0_
       (try clear hb); (try clear hb2); (try clear hk); (try clear hi)
       refine hK.out _ _ ⟨crA hw352_0, crA hw352_1, crA hw352_2⟩ (fun hHeld => ?_)
       clear hK K
       refine normA ?_
       refine pureA 5 (some 15) (mkB 25 63) ?_
       refine pureA 6 (some 16) (mkB 25 127) ?_
       refine pureA 7 (some 17) (mkB 25 255) ?_
       refine pureA 8 (some 18) (mkB 25 511) ?_
       refine pureA 9 (some 19) (mkB 25 1023) ?_
       refine pureU 10 (some 20) (mkB 25 2047) ?_
       refine pureU 11 (some 21) (mkB 25 4095) ?_
       refine pureU 12 (some 22) (mkB 25 8191) ?_
       refine pureU 13 (some 23) (mkB 25 16383) ?_
       refine pureU 14 (some 24) (mkB 25 32767) ?_
       refine pureU 15 (some 25) (mkB 25 65535) ?_
       refine pureU 16 (some 26) (mkB 25 131071) ?_
       refine pureU 17 (some 27) (mkB 25 262143) ?_
       refine pureU 18 (some 28) (mkB 25 524287) ?_
       refine pureU 19 (some 29) (mkB 25 1048575) ?_
       refine pureU 20 (some 30) (mkB 25 2097151) ?_
       refine pureU 21 (some 31) (mkB 25 4194303) ?_
       refine pureU 22 (some 32) (mkB 25 8388607) ?_
       refine pureA 23 (some 33) (mkB 25 16777215) ?_
       refine pureA 24 (some 34) (mkB 25 33554431) ?_
       refine done_ (done_of HT_.out (by kernel_rfl)) ?_
       try go_wp2
       go_roundg k1
       case measure => have := HK1.out; omega
       case rel => exact ⟨(wrap64 (x3_1 + 1)), (endS), H', ⟨by have := HK1.out; omega⟩, ⟨bwA⟩⟩
     ·replace c5 := Bool.eq_false_iff.mpr c5
      subst c5
      have H1 : (some false) = some r := by rw [if_neg (show ¬ (false = true) by decide)] at H; exact H
      clear H
      have H := H1
      clear H1
      obtain rfl := Option.some.inj H
      try go_wp2
      have n0_ := Aside0.mk (below_drew1 HB.out); clear HB; have HB := n0_; clear n0_
      have p352 : 0 ≤ (x3_1 : Int) := odA
      have q352 : x3_1 < (l0.length : Int) := odA
      obtain ⟨ad352, e352, hx352_0, hx352_1, hx352_2⟩ := at_T52 HR0.out x3_1 p352 q352
      have hw352_2 := hx352_2
      have hw352_1 := hx352_1
      have hw352_0 := hx352_0
      cases e352
      replace hx352_0 := crA hx352_0
      replace hx352_1 := crA hx352_1
      replace hx352_2 := crA hx352_2
      replace p352 := eq_true p352
      replace q352 := eq_true q352
      refine start_ (n := 25) (S := fun w' => w'.cell? (ad352.add ((x3_1).toNat * 3)) = some (.string ((rd_T52 l0 x3_1).f0)) ∧ w'.cell? ⟨(ad352.add ((x3_1).toNat * 3)).block, (ad352.add ((x3_1).toNat * 3)).off + 1, none⟩ = some (.int .i64 ((rd_T52 l0 x3_1).f1)) ∧ w'.cell? ⟨(ad352.add ((x3_1).toNat * 3)).block, (ad352.add ((x3_1).toNat * 3)).off + 2, none⟩ = some (.bool ((rd_T52 l0 x3_1).f2))) (ds := []) (mkB 25 0) (by kernel_rfl) rfl rfl ⟨crA hw352_0, crA hw352_1, crA hw352_2⟩ (fun hHeld => ?_); refine with_tabW caduceusref04_Check.tab4 caduceusref04_Check.bits4 (fun HT_ HW_ => ?_)
      generalize wr.drew = w20 at HB hx352_0 hx352_1 hx352_2 hHeld ⊢
      refine pureA 0 (some 10) (mkB 25 1) ?_
      refine pureA 1 (some 11) (mkB 25 3) ?_
      refine pureA 2 (some 12) (mkB 25 7) ?_
      refine takeA 3 (some 13) (mkB 25 15) ?_ rfl (Or.inl ⟨by rfl, by rintro w' ⟨s0, s1, s2⟩; go_simp; with_reducible rfl⟩)
      refine oneA 4 (some 14) (mkB 25 31) (fun K hK => ?_)
      refine goes_ Tryz.func23 (by kernel_rfl) rfl #[.agg #[.string ((rd_T52 l0 x3_1).f0), .int .i64 ((rd_T52 l0 x3_1).f1), .bool ((rd_T52 l0 x3_1).f2)]] (by rfl) rfl rfl (by (try simp only [List.map_toArray, List.map_cons, List.map_nil]); first | done | rfl | (simp only [List.length_drop, List.length_take]; rfl)) ?_
      with_reducible refine (caduceusref04_may.calls k1 ((rd_T52 l0 x3_1).f0) ((rd_T52 l0 x3_1).f1) ((rd_T52 l0 x3_1).f2) false _ A4.out).mono ?_
      rintro e w21 ⟨rfl, hb⟩
      refine ⟨_, rfl, ?_⟩
      have n0_ := Aside0.mk (below_step (bwA) hb); clear HB; have HB := n0_; clear n0_
      (try clear hb); (try clear hb2); (try clear hk); (try clear hi)
      refine hK.out _ _ ⟨crA hw352_0, crA hw352_1, crA hw352_2⟩ (fun hHeld => ?_)
      clear hK K
      refine normA ?_
      refine pureA 5 (some 15) (mkB 25 63) ?_
      refine pureA 6 (some 16) (mkB 25 127) ?_
      refine pureU 7 (some 17) (mkB 25 255) ?_
      refine pureU 8 (some 18) (mkB 25 511) ?_
      refine pureU 9 (some 19) (mkB 25 1023) ?_
      refine pureU 10 (some 20) (mkB 25 2047) ?_
      refine pureU 11 (some 21) (mkB 25 4095) ?_
      refine pureU 12 (some 22) (mkB 25 8191) ?_
      refine pureU 13 (some 23) (mkB 25 16383) ?_
      refine pureU 14 (some 24) (mkB 25 32767) ?_
      refine pureU 15 (some 25) (mkB 25 65535) ?_
      refine pureU 16 (some 26) (mkB 25 131071) ?_
      refine pureU 17 (some 27) (mkB 25 262143) ?_
      refine pureU 18 (some 28) (mkB 25 524287) ?_
      refine pureU 19 (some 29) (mkB 25 1048575) ?_
      refine pureU 20 (some 30) (mkB 25 2097151) ?_
      refine pureU 21 (some 31) (mkB 25 4194303) ?_
      refine pureU 22 (some 32) (mkB 25 8388607) ?_
      refine pureU 23 (some 33) (mkB 25 16777215) ?_
      refine pureA 24 (some 34) (mkB 25 33554431) ?_
      refine done_ (done_of HT_.out (by kernel_rfl)) ?_
      try go_wp2
      go_ret
      exact ⟨endA, bwA⟩
    ·rw [if_neg c3] at H
     exact absurd H (by simp)
   ·rw [if_neg c2] at H
    have c2b0 : decide (x3_1 < (l0.length : Int)) = false := decide_eq_false c2
    clear c2
    obtain rfl := Option.some.inj H
    go_wp2
    go_ret
    exact ⟨endA, bwA⟩

end Go.Proofs.YtbbfggfiknbdmaaGreatDoor.A
