-- By drv.py, the session's own driver round the kit's print: the machine's side of the laws, function by function. Not trusted: Lean checks it.
import Derived.Test.YtplemgmfnghoeaaGreatDoorAx0
import Derived.Test.YtplemgmfnghoeaaGreatDoorAx8
import Derived.Test.YtplemgmfnghoeaaGreatDoorAx9
namespace Go.Proofs.YtplemgmfnghoeaaGreatDoor.A
open Go.RowKit Go.Proofs.YtplemgmfnghoeaaGreatDoorW.PrintWords Go.Proofs.YtplemgmfnghoeaaGreatDoorW.PrintLast Go.Proofs.YtplemgmfnghoeaaGreatDoorW.PrintMore
attribute [local go_sem] max2_int min2_int max_two min_two max_three min_three max_four min_four   -- for this text's walks alone
set_option linter.unusedVariables false
set_option linter.unusedSimpArgs false

/-! ### schema_Attrs: function 35 -/
def schema_Attrs.l0 : Nat → List (S57) → List (S57) → Int → Int → Option (Bool)
 | 0, _, _, _, _ => none
 | k + 1, x0, x5, x6, x7 => if x7 < x6 then (if 0 ≤ x7 then (if x7 < (x5.length : Int) then ((schema_simple.f k ((rd_T57 x5 x7).f0)).bind fun t159 => (if t159 = true then ((value_Check.f ((rd_T57 x5 x7).f1.f0) ((rd_T57 x5 x7).f1.f1) ((rd_T57 x5 x7).f1.f2)).bind fun t160 => (if t160 = true then (if x7 > 0 then (if 0 ≤ (wrap64 (x7 - 1)) then (if (wrap64 (x7 - 1)) < (x0.length : Int) then ((name_Compare.f k ((rd_T57 x0 (wrap64 (x7 - 1))).f0) ((rd_T57 x5 x7).f0)).bind fun t162 => (if t162 ≥ 0 then (some false) else (schema_Attrs.l0 k x0 x5 x6 (wrap64 (x7 + 1))))) else (none)) else (none)) else (schema_Attrs.l0 k x0 x5 x6 (wrap64 (x7 + 1)))) else (some false))) else (some false))) else (none)) else (none)) else (some (decide ((x0.length : Int) ≤ 24)))
def schema_Attrs.f (k : Nat) (l0 : List (S57)) : Option (Bool) := schema_Attrs.l0 k l0 l0 (l0.length : Int) 0
theorem schema_Attrs.mono_l : ∀ k, (∀ y0 y1 y2 y3, LeO (schema_Attrs.l0 k y0 y1 y2 y3) (schema_Attrs.l0 (k + 1) y0 y1 y2 y3))
 | 0 => fun _ _ _ _ r h => by simp [schema_Attrs.l0] at h
 | k + 1 => by
  have ih0 := schema_Attrs.mono_l k
  ·intro y0 y1 y2 y3
   unfold schema_Attrs.l0
   repeat' first
   | (with_reducible exact ih0 _ _ _ _)
   | (with_reducible exact name_Compare.mono _ _ _)
   | (with_reducible exact schema_simple.mono _ _)
   | (with_reducible exact LeO.refl _)
   | (with_reducible exact LeO.none _)
   | (with_reducible refine LeO.ite ?_ ?_)
   | (with_reducible refine LeO.bind ?_ (fun _ => ?_))
   | exact ih0 _ _ _ _
   | exact name_Compare.mono _ _ _
   | exact schema_simple.mono _ _
   | exact LeO.none _
   | refine LeO.ite ?_ ?_
   | refine LeO.bind ?_ (fun _ => ?_)
theorem schema_Attrs.mono : ∀ a0 k, LeO (schema_Attrs.f k a0) (schema_Attrs.f (k + 1) a0) := by
 intro a0 k
 have ih0 := schema_Attrs.mono_l k
 unfold schema_Attrs.f
 repeat' first
   | (with_reducible exact ih0 _ _ _ _)
   | (with_reducible exact name_Compare.mono _ _ _)
   | (with_reducible exact schema_simple.mono _ _)
   | (with_reducible exact LeO.refl _)
   | (with_reducible exact LeO.none _)
   | (with_reducible refine LeO.ite ?_ ?_)
   | (with_reducible refine LeO.bind ?_ (fun _ => ?_))
   | exact ih0 _ _ _ _
   | exact name_Compare.mono _ _ _
   | exact schema_simple.mono _ _
   | exact LeO.none _
   | refine LeO.ite ?_ ?_
   | refine LeO.bind ?_ (fun _ => ?_)
def schema_Attrs.T4 : Bool × List (List Nat × List Nat) := (true, [([], []), ([0], [0]), ([1], [1]), ([2], [2]), ([3, 2], [3]), ([4], [4]), ([5, 4], [4, 5]), ([6, 4, 4], [4, 6]), ([7, 4], [4, 7]), ([4, 8], [4, 8]), ([9, 7], [9]), ([10], [10]), ([11, 10], [10, 11]), ([12, 10, 10], [10, 12]), ([13], [13]), ([13], [13]), ([15, 13], [13, 15]), ([14, 16, 13], [13, 14, 16]), ([17, 13], [13, 17]), ([18, 13], [13, 18]), ([13], [13]), ([20, 13], [13, 20]), ([19, 21, 13, 13], [13, 19, 21]), ([22, 13], [13, 22]), ([13, 23, 10], [10, 13, 23]), ([10, 24], [10, 24])])
def schema_Attrs.B4 : List Nat := [0, 1, 3, 7, 15, 31, 63, 127, 255, 511, 1023, 2047, 4095, 8191, 16383, 16383, 49151, 131071, 262143, 524287, 16383, 1064959, 4194303, 8388607, 16777215, 33554431]
theorem schema_Attrs.tab4 : rtab .any (opsOf Tryz.f35 4) = schema_Attrs.T4 := by kernel_rfl
theorem schema_Attrs.bits4 : waitsOk schema_Attrs.T4.2 schema_Attrs.B4 = true := by kernel_rfl
set_option maxHeartbeats 8000000 in
set_option maxRecDepth 100000 in
theorem schema_Attrs.calls (k : Nat) (A0 : Option Addr) (c0 : Nat) (l0 : List (S57)) (r : Bool) (w : World) (hr0 : Kd.C k57 w A0 l0.length l0) (hc0 : l0.length ≤ c0) (hT : Tabs w) (h : schema_Attrs.f k l0 = some r) :
  Calls Tryz.prog 35 #[.slice A0 l0.length c0] w fun e w' => e = .returned (.bool r) ∧ Below w.heap.size w w' := by
 have hu57 := Tryz.underlying57
 have hu55 := Tryz.underlying55
 have HR0 := Aside0.mk hr0
 have HC0 := Aside0.mk hc0
 clear hr0 hc0
 have HB := Aside0.mk (Below.refl w.heap.size w)
 have H : (schema_Attrs.l0 k l0 l0 (l0.length : Int) 0) = some r := h
 clear h
 have HT := Aside0.mk hT
 clear hT
 have H' := Aside0.mk H
 clear H
 go_enter Tryz.func35, Tryz.ntmps35
 go_wp2
 go_loopg [7] k (fun kq v7 w' => ∃ (x7_1 : Int), v7 = .int .i64 x7_1 ∧ Aside0 (schema_Attrs.l0 kq l0 l0 (l0.length : Int) x7_1 = some r) ∧ Aside0 (kq ≤ k) ∧ Aside0 (Below w.heap.size w w'))
 case atStart => exact ⟨(0), (endS), H', ⟨Nat.le_refl _⟩, ⟨bwA⟩⟩
 case round =>
  clear H'
  obtain ⟨x7_1, rfl, HA, HK1, HB⟩ := hrel
  cases gk with
  | zero => exact absurd HA.out (by simp [schema_Attrs.l0])
  | succ k1 =>
   have H := HA.out
   clear HA
   simp only [schema_Attrs.l0] at H
   by_cases c2 : x7_1 < (l0.length : Int)
   ·rw [if_pos c2] at H
    have c2b0 : decide (x7_1 < (l0.length : Int)) = true := decide_eq_true c2
    clear c2
    by_cases c3 : 0 ≤ x7_1
    ·rw [if_pos c3] at H
     have c3b0 : decide (0 ≤ x7_1) = true := decide_eq_true c3
     clear c3
     by_cases c4 : x7_1 < (l0.length : Int)
     ·rw [if_pos c4] at H
      have c4b0 : decide (x7_1 < (l0.length : Int)) = true := decide_eq_true c4
      clear c4
      replace H := Option.bind_eq_some_iff.mp H
      obtain ⟨t159, A50, H⟩ := H
      replace H : (if t159 = true then ((value_Check.f ((rd_T57 l0 x7_1).f1.f0) ((rd_T57 l0 x7_1).f1.f1) ((rd_T57 l0 x7_1).f1.f2)).bind fun t160 => (if t160 = true then (if x7_1 > 0 then (if 0 ≤ (wrap64 (x7_1 - 1)) then (if (wrap64 (x7_1 - 1)) < (l0.length : Int) then ((name_Compare.f k1 ((rd_T57 l0 (wrap64 (x7_1 - 1))).f0) ((rd_T57 l0 x7_1).f0)).bind fun t162 => (if t162 ≥ 0 then (some false) else (schema_Attrs.l0 k1 l0 l0 (l0.length : Int) (wrap64 (x7_1 + 1))))) else (none)) else (none)) else (schema_Attrs.l0 k1 l0 l0 (l0.length : Int) (wrap64 (x7_1 + 1)))) else (some false))) else (some false)) = some r := H
      have A5 := Aside0.mk A50
      clear A50
      by_cases c6 : t159 = true
      ·subst c6
       have H1 : ((value_Check.f ((rd_T57 l0 x7_1).f1.f0) ((rd_T57 l0 x7_1).f1.f1) ((rd_T57 l0 x7_1).f1.f2)).bind fun t160 => (if t160 = true then (if x7_1 > 0 then (if 0 ≤ (wrap64 (x7_1 - 1)) then (if (wrap64 (x7_1 - 1)) < (l0.length : Int) then ((name_Compare.f k1 ((rd_T57 l0 (wrap64 (x7_1 - 1))).f0) ((rd_T57 l0 x7_1).f0)).bind fun t162 => (if t162 ≥ 0 then (some false) else (schema_Attrs.l0 k1 l0 l0 (l0.length : Int) (wrap64 (x7_1 + 1))))) else (none)) else (none)) else (schema_Attrs.l0 k1 l0 l0 (l0.length : Int) (wrap64 (x7_1 + 1)))) else (some false))) = some r := by rw [if_pos rfl] at H; exact H
       clear H
       have H := H1
       clear H1
       replace H := Option.bind_eq_some_iff.mp H
       obtain ⟨t160, A70, H⟩ := H
       replace H : (if t160 = true then (if x7_1 > 0 then (if 0 ≤ (wrap64 (x7_1 - 1)) then (if (wrap64 (x7_1 - 1)) < (l0.length : Int) then ((name_Compare.f k1 ((rd_T57 l0 (wrap64 (x7_1 - 1))).f0) ((rd_T57 l0 x7_1).f0)).bind fun t162 => (if t162 ≥ 0 then (some false) else (schema_Attrs.l0 k1 l0 l0 (l0.length : Int) (wrap64 (x7_1 + 1))))) else (none)) else (none)) else (schema_Attrs.l0 k1 l0 l0 (l0.length : Int) (wrap64 (x7_1 + 1)))) else (some false)) = some r := H
       have A7 := Aside0.mk A70
       clear A70
       by_cases c8 : t160 = true
       ·subst c8
        have H1 : (if x7_1 > 0 then (if 0 ≤ (wrap64 (x7_1 - 1)) then (if (wrap64 (x7_1 - 1)) < (l0.length : Int) then ((name_Compare.f k1 ((rd_T57 l0 (wrap64 (x7_1 - 1))).f0) ((rd_T57 l0 x7_1).f0)).bind fun t162 => (if t162 ≥ 0 then (some false) else (schema_Attrs.l0 k1 l0 l0 (l0.length : Int) (wrap64 (x7_1 + 1))))) else (none)) else (none)) else (schema_Attrs.l0 k1 l0 l0 (l0.length : Int) (wrap64 (x7_1 + 1)))) = some r := by rw [if_pos rfl] at H; exact H
        clear H
        have H := H1
        clear H1
        by_cases c9 : x7_1 > 0
        ·rw [if_pos c9] at H
         have c9b0 : decide (0 < x7_1) = true := decide_eq_true c9
         clear c9
         obtain ⟨ji10, hji10⟩ : ∃ j_ : Int, (wrap64 (x7_1 - 1)) = j_ := ⟨_, rfl⟩
         replace H : (if 0 ≤ (ji10) then (if (ji10) < (l0.length : Int) then ((name_Compare.f k1 ((rd_T57 l0 (ji10)).f0) ((rd_T57 l0 x7_1).f0)).bind fun t162 => (if t162 ≥ 0 then (some false) else (schema_Attrs.l0 k1 l0 l0 (l0.length : Int) (wrap64 (x7_1 + 1))))) else (none)) else (none)) = some r := by first | (rw [hji10] at H; exact H) | (simp only [hji10] at H ⊢; exact H)
         (try rw [hji10] at A5)
         (try rw [hji10] at A7)
         have hji10w : (IntKind.i64.wrap (x7_1 - 1)) = ji10 := (i64_w _).trans hji10
         by_cases c11 : 0 ≤ (ji10)
         ·rw [if_pos c11] at H
          have c11b0 : decide (0 ≤ (ji10)) = true := decide_eq_true c11
          clear c11
          by_cases c12 : (ji10) < (l0.length : Int)
          ·rw [if_pos c12] at H
           have c12b0 : decide ((ji10) < (l0.length : Int)) = true := decide_eq_true c12
           clear c12
           replace H := Option.bind_eq_some_iff.mp H
           obtain ⟨t162, A130, H⟩ := H
           replace H : (if t162 ≥ 0 then (some false) else (schema_Attrs.l0 k1 l0 l0 (l0.length : Int) (wrap64 (x7_1 + 1)))) = some r := H
           have A13 := Aside0.mk A130
           clear A130
           by_cases c14 : t162 ≥ 0
           ·rw [if_pos c14] at H
            have c14b0 : decide (0 ≤ t162) = true := decide_eq_true c14
            clear c14
            obtain rfl := Option.some.inj H
            have p157 : 0 ≤ (x7_1 : Int) := odA
            have q157 : x7_1 < (l0.length : Int) := odA
            obtain ⟨ad157, e157, hx157_0, hx157_1, hx157_2, hx157_3⟩ := at_T57 HR0.out x7_1 p157 q157
            cases e157
            replace hx157_0 := crA hx157_0
            replace hx157_1 := crA hx157_1
            replace hx157_2 := crA hx157_2
            replace hx157_3 := crA hx157_3
            replace p157 := eq_true p157
            replace q157 := eq_true q157
            try go_wp2_with (first | ((with_reducible refine gate_dst (N := 4) rfl ?_); refine box_event ?hg (N := 4) ?hd (cs := #[.string (⟨#[]⟩ : ByteArray), .int .i64 0, .int .i64 0, .string (⟨#[]⟩ : ByteArray)]) (t := 57) ?hr ?_; (case hd => rfl); (case hg => rfl); (case hr => first | (go_simp; done) | (go_simp; rfl)); intro gb158 hg w15 hbox hb; have n0_ := Aside0.mk (below_step (bwA) hb); have n1_ := Aside0.mk (hbox); have n2_ := Aside0.mk ((by rw [hg]; exact (below_size (bwA)) : w.heap.size ≤ gb158)); have n3_ := Aside0.mk ((by rw [hg]; exact (below_size (bwA)) : w.heap.size ≤ gb158)); clear HB; have HB := n0_; have BK158 := n1_; have GW158 := n2_; have GE158 := n3_; clear n0_ n1_ n2_ n3_; clear hb hbox hg; have hcz16_0 : w15.cell? ⟨gb158, 0, none⟩ = some (.string (⟨#[]⟩ : ByteArray)) := (blk_cell BK158.out 0).trans rfl; have hcz16_1 : w15.cell? ⟨gb158, 1, none⟩ = some (.int .i64 0) := (blk_cell BK158.out 1).trans rfl; have hcz16_2 : w15.cell? ⟨gb158, 2, none⟩ = some (.int .i64 0) := (blk_cell BK158.out 2).trans rfl; have hcz16_3 : w15.cell? ⟨gb158, 3, none⟩ = some (.string (⟨#[]⟩ : ByteArray)) := (blk_cell BK158.out 3).trans rfl; have hfz16_0 := blk_frozen BK158.out 0; have hfz16_1 := blk_frozen BK158.out 1; have hfz16_2 := blk_frozen BK158.out 2; have hfz16_3 := blk_frozen BK158.out 3))
            have n0_ : Aside0 (((((w15.setCell ⟨gb158, 0, none⟩ (.string ((rd_T57 l0 x7_1).f0))).setCell ⟨gb158, 1, none⟩ (.int .i64 ((rd_T57 l0 x7_1).f1.f0))).setCell ⟨gb158, 2, none⟩ (.int .i64 ((rd_T57 l0 x7_1).f1.f1))).setCell ⟨gb158, 3, none⟩ (.string ((rd_T57 l0 x7_1).f1.f2))).heap[gb158]? = some (.cells #[.string ((rd_T57 l0 x7_1).f0), .int .i64 ((rd_T57 l0 x7_1).f1.f0), .int .i64 ((rd_T57 l0 x7_1).f1.f1), .string ((rd_T57 l0 x7_1).f1.f2)] 57 (0, 0))) := ⟨by (with_reducible repeat (first | refine blk_drewN ?_ _ | refine blk_drew ?_ | refine blk_alloc ?_ _)); refine blk_put (cs := #[.string ((rd_T57 l0 x7_1).f0), .int .i64 ((rd_T57 l0 x7_1).f1.f0), .int .i64 ((rd_T57 l0 x7_1).f1.f1), .string (⟨#[]⟩ : ByteArray)]) ?_ 3 _ rfl; (with_reducible repeat (first | refine blk_drewN ?_ _ | refine blk_drew ?_ | refine blk_alloc ?_ _)); refine blk_put (cs := #[.string ((rd_T57 l0 x7_1).f0), .int .i64 ((rd_T57 l0 x7_1).f1.f0), .int .i64 0, .string (⟨#[]⟩ : ByteArray)]) ?_ 2 _ rfl; (with_reducible repeat (first | refine blk_drewN ?_ _ | refine blk_drew ?_ | refine blk_alloc ?_ _)); refine blk_put (cs := #[.string ((rd_T57 l0 x7_1).f0), .int .i64 0, .int .i64 0, .string (⟨#[]⟩ : ByteArray)]) ?_ 1 _ rfl; (with_reducible repeat (first | refine blk_drewN ?_ _ | refine blk_drew ?_ | refine blk_alloc ?_ _)); refine blk_put (cs := #[.string (⟨#[]⟩ : ByteArray), .int .i64 0, .int .i64 0, .string (⟨#[]⟩ : ByteArray)]) ?_ 0 _ rfl; (with_reducible repeat (first | refine blk_drewN ?_ _ | refine blk_drew ?_ | refine blk_alloc ?_ _)); exact BK158.out⟩
            have n1_ : Aside0 (Below w.heap.size w ((((w15.setCell ⟨gb158, 0, none⟩ (.string ((rd_T57 l0 x7_1).f0))).setCell ⟨gb158, 1, none⟩ (.int .i64 ((rd_T57 l0 x7_1).f1.f0))).setCell ⟨gb158, 2, none⟩ (.int .i64 ((rd_T57 l0 x7_1).f1.f1))).setCell ⟨gb158, 3, none⟩ (.string ((rd_T57 l0 x7_1).f1.f2)))) := ⟨bwA⟩
            (try clear BK158)
            (try clear HB)
            generalize ((((w15.setCell ⟨gb158, 0, none⟩ (.string ((rd_T57 l0 x7_1).f0))).setCell ⟨gb158, 1, none⟩ (.int .i64 ((rd_T57 l0 x7_1).f1.f0))).setCell ⟨gb158, 2, none⟩ (.int .i64 ((rd_T57 l0 x7_1).f1.f1))).setCell ⟨gb158, 3, none⟩ (.string ((rd_T57 l0 x7_1).f1.f2))) = w17 at n0_ n1_ ⊢
            have BK158 := n0_
            have HB := n1_
            clear n0_ n1_
            have n0_ := Aside0.mk (blk_drew BK158.out)
            have n1_ := Aside0.mk (below_drew1 HB.out)
            clear BK158
            clear HB
            have BK158 := n0_
            have HB := n1_
            clear n0_ n1_
            have p161 : 0 ≤ ((ji10) : Int) := odA
            have q161 : (ji10) < (l0.length : Int) := odA
            obtain ⟨ad161, e161, hx161_0, hx161_1, hx161_2, hx161_3⟩ := at_T57 HR0.out (ji10) p161 q161
            have hw161_3 := hx161_3
            have hw161_2 := hx161_2
            have hw161_1 := hx161_1
            have hw161_0 := hx161_0
            obtain rfl : ad157 = ad161 := (by injection e161)
            replace hx161_0 := crA hx161_0
            replace hx161_1 := crA hx161_1
            replace hx161_2 := crA hx161_2
            replace hx161_3 := crA hx161_3
            replace p161 := eq_true p161
            replace q161 := eq_true q161
            refine start_ (n := 26) (S := fun w' => w'.cell? ⟨gb158, 0, none⟩ = some (.string ((rd_T57 l0 x7_1).f0)) ∧ w'.cell? ⟨gb158, 1, none⟩ = some (.int .i64 ((rd_T57 l0 x7_1).f1.f0)) ∧ w'.cell? ⟨gb158, 2, none⟩ = some (.int .i64 ((rd_T57 l0 x7_1).f1.f1)) ∧ w'.cell? ⟨gb158, 3, none⟩ = some (.string ((rd_T57 l0 x7_1).f1.f2)) ∧ w'.cell? (ad157.add (((ji10)).toNat * 4)) = some (.string ((rd_T57 l0 (ji10)).f0)) ∧ w'.cell? ⟨(ad157.add (((ji10)).toNat * 4)).block, (ad157.add (((ji10)).toNat * 4)).off + 1, none⟩ = some (.int .i64 ((rd_T57 l0 (ji10)).f1.f0)) ∧ w'.cell? ⟨(ad157.add (((ji10)).toNat * 4)).block, (ad157.add (((ji10)).toNat * 4)).off + 2, none⟩ = some (.int .i64 ((rd_T57 l0 (ji10)).f1.f1)) ∧ w'.cell? ⟨(ad157.add (((ji10)).toNat * 4)).block, (ad157.add (((ji10)).toNat * 4)).off + 3, none⟩ = some (.string ((rd_T57 l0 (ji10)).f1.f2))) (ds := []) (mkB 26 0) (by kernel_rfl) rfl rfl ⟨(blk_cell BK158.out 0).trans rfl, (blk_cell BK158.out 1).trans rfl, (blk_cell BK158.out 2).trans rfl, (blk_cell BK158.out 3).trans rfl, crA hw161_0, crA hw161_1, crA hw161_2, crA hw161_3⟩ (fun hHeld => ?_); refine with_tabW schema_Attrs.tab4 schema_Attrs.bits4 (fun HT_ HW_ => ?_)
            generalize w17.drew = w18 at BK158 HB hx161_0 hx161_1 hx161_2 hx161_3 hHeld ⊢
            refine pureA 0 (some 12) (mkB 26 1) ?_
            refine takeA 1 (some 13) (mkB 26 3) ?_ rfl (Or.inl ⟨by rfl, by rintro w' ⟨s0, s1, s2, s3, s4, s5, s6, s7⟩; go_simp; with_reducible rfl⟩)
            refine oneA 2 (some 14) (mkB 26 7) (fun K hK => ?_)
            refine goes_ Tryz.func63 (by kernel_rfl) rfl #[.string ((rd_T57 l0 x7_1).f0)] (by rfl) rfl rfl (by (try simp only [List.map_toArray, List.map_cons, List.map_nil]); first | done | rfl | (simp only [List.length_drop, List.length_take]; rfl)) ?_
            with_reducible refine (schema_simple.calls k1 ((rd_T57 l0 x7_1).f0) true _ ?side1 A5.out).mono ?_
            (case side1 => exact Tabs.below HT.out (bwA))
            rintro e w19 ⟨rfl, hb⟩
            refine ⟨_, rfl, ?_⟩
            have n0_ := Aside0.mk (blk_below (g := gb158) (o := .cells #[.string ((rd_T57 l0 x7_1).f0), .int .i64 ((rd_T57 l0 x7_1).f1.f0), .int .i64 ((rd_T57 l0 x7_1).f1.f1), .string ((rd_T57 l0 x7_1).f1.f2)] 57 (0, 0)) blkA hb)
            have n1_ := Aside0.mk (below_step (bwA) hb)
            clear BK158
            clear HB
            have BK158 := n0_
            have HB := n1_
            clear n0_ n1_
            (try clear hb); (try clear hb2); (try clear hk); (try clear hi)
            refine hK.out _ _ ⟨(blk_cell BK158.out 0).trans rfl, (blk_cell BK158.out 1).trans rfl, (blk_cell BK158.out 2).trans rfl, (blk_cell BK158.out 3).trans rfl, crA hw161_0, crA hw161_1, crA hw161_2, crA hw161_3⟩ (fun hHeld => ?_)
            clear hK K
            refine normA ?_
            refine pureA 3 (some 15) (mkB 26 15) ?_
            refine pureA 4 (some 16) (mkB 26 31) ?_
            refine pureA 5 (some 17) (mkB 26 63) ?_
            refine takeA 6 (some 18) (mkB 26 127) ?_ rfl (Or.inl ⟨by rfl, by rintro w' ⟨s0, s1, s2, s3, s4, s5, s6, s7⟩; go_simp; with_reducible rfl⟩)
            refine oneA 7 (some 19) (mkB 26 255) (fun K hK => ?_)
            refine goes_ Tryz.func64 (by kernel_rfl) rfl #[.agg #[.int .i64 ((rd_T57 l0 x7_1).f1.f0), .int .i64 ((rd_T57 l0 x7_1).f1.f1), .string ((rd_T57 l0 x7_1).f1.f2)]] (by rfl) rfl rfl (by (try simp only [List.map_toArray, List.map_cons, List.map_nil]); first | done | rfl | (simp only [List.length_drop, List.length_take]; rfl)) ?_
            with_reducible refine (value_Check.calls ((rd_T57 l0 x7_1).f1.f0) ((rd_T57 l0 x7_1).f1.f1) ((rd_T57 l0 x7_1).f1.f2) true _ ?side1 A7.out).mono ?_
            (case side1 => exact Tabs.below HT.out (bwA))
            rintro e w20 ⟨rfl, hb⟩
            refine ⟨_, rfl, ?_⟩
            have n0_ := Aside0.mk (blk_below (g := gb158) (o := .cells #[.string ((rd_T57 l0 x7_1).f0), .int .i64 ((rd_T57 l0 x7_1).f1.f0), .int .i64 ((rd_T57 l0 x7_1).f1.f1), .string ((rd_T57 l0 x7_1).f1.f2)] 57 (0, 0)) blkA hb)
            have n1_ := Aside0.mk (below_step (bwA) hb)
            clear BK158
            clear HB
            have BK158 := n0_
            have HB := n1_
            clear n0_ n1_
            (try clear hb); (try clear hb2); (try clear hk); (try clear hi)
            refine hK.out _ _ ⟨(blk_cell BK158.out 0).trans rfl, (blk_cell BK158.out 1).trans rfl, (blk_cell BK158.out 2).trans rfl, (blk_cell BK158.out 3).trans rfl, crA hw161_0, crA hw161_1, crA hw161_2, crA hw161_3⟩ (fun hHeld => ?_)
            clear hK K
            refine normA ?_
            refine pureA 8 (some 20) (mkB 26 511) ?_
            refine pureA 9 (some 21) (mkB 26 1023) ?_
            refine pureA 10 (some 22) (mkB 26 2047) ?_
            refine pureA 11 (some 23) (mkB 26 4095) ?_
            refine pureA 12 (some 24) (mkB 26 8191) ?_
            refine pureA 13 (some 25) (mkB 26 16383) ?_
            refine pureA 14 (some 26) (mkB 26 32767) ?_
            refine pureA 15 (some 27) (mkB 26 65535) ?_
            refine pureA 16 (some 28) (mkB 26 131071) ?_
            refine pureA 17 (some 29) (mkB 26 262143) ?_
            refine pureA 18 (some 30) (mkB 26 524287) ?_
            refine pureA 20 (some 32) (mkB 26 1572863) ?_
            refine takeA 19 (some 31) (mkB 26 2097151) ?_ rfl (Or.inl ⟨by rfl, by rintro w' ⟨s0, s1, s2, s3, s4, s5, s6, s7⟩; go_simp; with_reducible rfl⟩)
            refine takeA 21 (some 33) (mkB 26 4194303) ?_ rfl (Or.inl ⟨by rfl, by rintro w' ⟨s0, s1, s2, s3, s4, s5, s6, s7⟩; go_simp; with_reducible rfl⟩)
            refine oneA 22 (some 34) (mkB 26 8388607) (fun K hK => ?_)
            refine goes_ Tryz.func65 (by kernel_rfl) rfl #[.string ((rd_T57 l0 (ji10)).f0), .string ((rd_T57 l0 x7_1).f0)] (by rfl) rfl rfl (by (try simp only [List.map_toArray, List.map_cons, List.map_nil]); first | done | (simp only [hji10]; rfl) | rfl | (simp only [List.length_drop, List.length_take]; rfl)) ?_
            with_reducible refine (name_Compare.calls k1 ((rd_T57 l0 (ji10)).f0) ((rd_T57 l0 x7_1).f0) t162 _ ?side1 A13.out).mono ?_
            (case side1 => exact Tabs.below HT.out (bwA))
            rintro e w21 ⟨rfl, hb⟩
            refine ⟨_, rfl, ?_⟩
            have n0_ := Aside0.mk (blk_below (g := gb158) (o := .cells #[.string ((rd_T57 l0 x7_1).f0), .int .i64 ((rd_T57 l0 x7_1).f1.f0), .int .i64 ((rd_T57 l0 x7_1).f1.f1), .string ((rd_T57 l0 x7_1).f1.f2)] 57 (0, 0)) blkA hb)
            have n1_ := Aside0.mk (below_step (bwA) hb)
            clear BK158
            clear HB
            have BK158 := n0_
            have HB := n1_
            clear n0_ n1_
            (try clear hb); (try clear hb2); (try clear hk); (try clear hi)
            refine hK.out _ _ ⟨(blk_cell BK158.out 0).trans rfl, (blk_cell BK158.out 1).trans rfl, (blk_cell BK158.out 2).trans rfl, (blk_cell BK158.out 3).trans rfl, crA hw161_0, crA hw161_1, crA hw161_2, crA hw161_3⟩ (fun hHeld => ?_)
            clear hK K
            refine normA ?_
            refine pureA 23 (some 35) (mkB 26 16777215) ?_
            refine pureA 24 (some 36) (mkB 26 33554431) ?_
            refine pureA 25 (some 37) (mkB 26 67108863) ?_
            refine done_ (done_of HT_.out (by kernel_rfl)) ?_
            try go_wp2
            go_ret
            exact ⟨by first | rfl | (rw [ne_nil_b]; (first | done | rfl)) | (simp [errW_none, errW_some] <;> rfl) | (simp only [← hji10]; first | rfl | (simp [errW_none, errW_some] <;> rfl)) | (simp [*, errW_none, errW_some] <;> rfl), bwA⟩
           ·rw [if_neg c14] at H
            have c14b0 : decide (0 ≤ t162) = false := decide_eq_false c14
            clear c14
            have H' := Aside0.mk H
            clear H
            have p157 : 0 ≤ (x7_1 : Int) := odA
            have q157 : x7_1 < (l0.length : Int) := odA
            obtain ⟨ad157, e157, hx157_0, hx157_1, hx157_2, hx157_3⟩ := at_T57 HR0.out x7_1 p157 q157
            cases e157
            replace hx157_0 := crA hx157_0
            replace hx157_1 := crA hx157_1
            replace hx157_2 := crA hx157_2
            replace hx157_3 := crA hx157_3
            replace p157 := eq_true p157
            replace q157 := eq_true q157
            try go_wp2_with (first | ((with_reducible refine gate_dst (N := 4) rfl ?_); refine box_event ?hg (N := 4) ?hd (cs := #[.string (⟨#[]⟩ : ByteArray), .int .i64 0, .int .i64 0, .string (⟨#[]⟩ : ByteArray)]) (t := 57) ?hr ?_; (case hd => rfl); (case hg => rfl); (case hr => first | (go_simp; done) | (go_simp; rfl)); intro gb158 hg w22 hbox hb; have n0_ := Aside0.mk (below_step (bwA) hb); have n1_ := Aside0.mk (hbox); have n2_ := Aside0.mk ((by rw [hg]; exact (below_size (bwA)) : w.heap.size ≤ gb158)); have n3_ := Aside0.mk ((by rw [hg]; exact (below_size (bwA)) : w.heap.size ≤ gb158)); clear HB; have HB := n0_; have BK158 := n1_; have GW158 := n2_; have GE158 := n3_; clear n0_ n1_ n2_ n3_; clear hb hbox hg; have hcz23_0 : w22.cell? ⟨gb158, 0, none⟩ = some (.string (⟨#[]⟩ : ByteArray)) := (blk_cell BK158.out 0).trans rfl; have hcz23_1 : w22.cell? ⟨gb158, 1, none⟩ = some (.int .i64 0) := (blk_cell BK158.out 1).trans rfl; have hcz23_2 : w22.cell? ⟨gb158, 2, none⟩ = some (.int .i64 0) := (blk_cell BK158.out 2).trans rfl; have hcz23_3 : w22.cell? ⟨gb158, 3, none⟩ = some (.string (⟨#[]⟩ : ByteArray)) := (blk_cell BK158.out 3).trans rfl; have hfz23_0 := blk_frozen BK158.out 0; have hfz23_1 := blk_frozen BK158.out 1; have hfz23_2 := blk_frozen BK158.out 2; have hfz23_3 := blk_frozen BK158.out 3))
            have n0_ : Aside0 (((((w22.setCell ⟨gb158, 0, none⟩ (.string ((rd_T57 l0 x7_1).f0))).setCell ⟨gb158, 1, none⟩ (.int .i64 ((rd_T57 l0 x7_1).f1.f0))).setCell ⟨gb158, 2, none⟩ (.int .i64 ((rd_T57 l0 x7_1).f1.f1))).setCell ⟨gb158, 3, none⟩ (.string ((rd_T57 l0 x7_1).f1.f2))).heap[gb158]? = some (.cells #[.string ((rd_T57 l0 x7_1).f0), .int .i64 ((rd_T57 l0 x7_1).f1.f0), .int .i64 ((rd_T57 l0 x7_1).f1.f1), .string ((rd_T57 l0 x7_1).f1.f2)] 57 (0, 0))) := ⟨by (with_reducible repeat (first | refine blk_drewN ?_ _ | refine blk_drew ?_ | refine blk_alloc ?_ _)); refine blk_put (cs := #[.string ((rd_T57 l0 x7_1).f0), .int .i64 ((rd_T57 l0 x7_1).f1.f0), .int .i64 ((rd_T57 l0 x7_1).f1.f1), .string (⟨#[]⟩ : ByteArray)]) ?_ 3 _ rfl; (with_reducible repeat (first | refine blk_drewN ?_ _ | refine blk_drew ?_ | refine blk_alloc ?_ _)); refine blk_put (cs := #[.string ((rd_T57 l0 x7_1).f0), .int .i64 ((rd_T57 l0 x7_1).f1.f0), .int .i64 0, .string (⟨#[]⟩ : ByteArray)]) ?_ 2 _ rfl; (with_reducible repeat (first | refine blk_drewN ?_ _ | refine blk_drew ?_ | refine blk_alloc ?_ _)); refine blk_put (cs := #[.string ((rd_T57 l0 x7_1).f0), .int .i64 0, .int .i64 0, .string (⟨#[]⟩ : ByteArray)]) ?_ 1 _ rfl; (with_reducible repeat (first | refine blk_drewN ?_ _ | refine blk_drew ?_ | refine blk_alloc ?_ _)); refine blk_put (cs := #[.string (⟨#[]⟩ : ByteArray), .int .i64 0, .int .i64 0, .string (⟨#[]⟩ : ByteArray)]) ?_ 0 _ rfl; (with_reducible repeat (first | refine blk_drewN ?_ _ | refine blk_drew ?_ | refine blk_alloc ?_ _)); exact BK158.out⟩
            have n1_ : Aside0 (Below w.heap.size w ((((w22.setCell ⟨gb158, 0, none⟩ (.string ((rd_T57 l0 x7_1).f0))).setCell ⟨gb158, 1, none⟩ (.int .i64 ((rd_T57 l0 x7_1).f1.f0))).setCell ⟨gb158, 2, none⟩ (.int .i64 ((rd_T57 l0 x7_1).f1.f1))).setCell ⟨gb158, 3, none⟩ (.string ((rd_T57 l0 x7_1).f1.f2)))) := ⟨bwA⟩
            (try clear BK158)
            (try clear HB)
            generalize ((((w22.setCell ⟨gb158, 0, none⟩ (.string ((rd_T57 l0 x7_1).f0))).setCell ⟨gb158, 1, none⟩ (.int .i64 ((rd_T57 l0 x7_1).f1.f0))).setCell ⟨gb158, 2, none⟩ (.int .i64 ((rd_T57 l0 x7_1).f1.f1))).setCell ⟨gb158, 3, none⟩ (.string ((rd_T57 l0 x7_1).f1.f2))) = w24 at n0_ n1_ ⊢
            have BK158 := n0_
            have HB := n1_
            clear n0_ n1_
            have n0_ := Aside0.mk (blk_drew BK158.out)
            have n1_ := Aside0.mk (below_drew1 HB.out)
            clear BK158
            clear HB
            have BK158 := n0_
            have HB := n1_
            clear n0_ n1_
            have p161 : 0 ≤ ((ji10) : Int) := odA
            have q161 : (ji10) < (l0.length : Int) := odA
            obtain ⟨ad161, e161, hx161_0, hx161_1, hx161_2, hx161_3⟩ := at_T57 HR0.out (ji10) p161 q161
            have hw161_3 := hx161_3
            have hw161_2 := hx161_2
            have hw161_1 := hx161_1
            have hw161_0 := hx161_0
            obtain rfl : ad157 = ad161 := (by injection e161)
            replace hx161_0 := crA hx161_0
            replace hx161_1 := crA hx161_1
            replace hx161_2 := crA hx161_2
            replace hx161_3 := crA hx161_3
            replace p161 := eq_true p161
            replace q161 := eq_true q161
            refine start_ (n := 26) (S := fun w' => w'.cell? ⟨gb158, 0, none⟩ = some (.string ((rd_T57 l0 x7_1).f0)) ∧ w'.cell? ⟨gb158, 1, none⟩ = some (.int .i64 ((rd_T57 l0 x7_1).f1.f0)) ∧ w'.cell? ⟨gb158, 2, none⟩ = some (.int .i64 ((rd_T57 l0 x7_1).f1.f1)) ∧ w'.cell? ⟨gb158, 3, none⟩ = some (.string ((rd_T57 l0 x7_1).f1.f2)) ∧ w'.cell? (ad157.add (((ji10)).toNat * 4)) = some (.string ((rd_T57 l0 (ji10)).f0)) ∧ w'.cell? ⟨(ad157.add (((ji10)).toNat * 4)).block, (ad157.add (((ji10)).toNat * 4)).off + 1, none⟩ = some (.int .i64 ((rd_T57 l0 (ji10)).f1.f0)) ∧ w'.cell? ⟨(ad157.add (((ji10)).toNat * 4)).block, (ad157.add (((ji10)).toNat * 4)).off + 2, none⟩ = some (.int .i64 ((rd_T57 l0 (ji10)).f1.f1)) ∧ w'.cell? ⟨(ad157.add (((ji10)).toNat * 4)).block, (ad157.add (((ji10)).toNat * 4)).off + 3, none⟩ = some (.string ((rd_T57 l0 (ji10)).f1.f2))) (ds := []) (mkB 26 0) (by kernel_rfl) rfl rfl ⟨(blk_cell BK158.out 0).trans rfl, (blk_cell BK158.out 1).trans rfl, (blk_cell BK158.out 2).trans rfl, (blk_cell BK158.out 3).trans rfl, crA hw161_0, crA hw161_1, crA hw161_2, crA hw161_3⟩ (fun hHeld => ?_); refine with_tabW schema_Attrs.tab4 schema_Attrs.bits4 (fun HT_ HW_ => ?_)
            generalize w24.drew = w25 at BK158 HB hx161_0 hx161_1 hx161_2 hx161_3 hHeld ⊢
            refine pureA 0 (some 12) (mkB 26 1) ?_
            refine takeA 1 (some 13) (mkB 26 3) ?_ rfl (Or.inl ⟨by rfl, by rintro w' ⟨s0, s1, s2, s3, s4, s5, s6, s7⟩; go_simp; with_reducible rfl⟩)
            refine oneA 2 (some 14) (mkB 26 7) (fun K hK => ?_)
            refine goes_ Tryz.func63 (by kernel_rfl) rfl #[.string ((rd_T57 l0 x7_1).f0)] (by rfl) rfl rfl (by (try simp only [List.map_toArray, List.map_cons, List.map_nil]); first | done | rfl | (simp only [List.length_drop, List.length_take]; rfl)) ?_
            with_reducible refine (schema_simple.calls k1 ((rd_T57 l0 x7_1).f0) true _ ?side1 A5.out).mono ?_
            (case side1 => exact Tabs.below HT.out (bwA))
            rintro e w26 ⟨rfl, hb⟩
            refine ⟨_, rfl, ?_⟩
            have n0_ := Aside0.mk (blk_below (g := gb158) (o := .cells #[.string ((rd_T57 l0 x7_1).f0), .int .i64 ((rd_T57 l0 x7_1).f1.f0), .int .i64 ((rd_T57 l0 x7_1).f1.f1), .string ((rd_T57 l0 x7_1).f1.f2)] 57 (0, 0)) blkA hb)
            have n1_ := Aside0.mk (below_step (bwA) hb)
            clear BK158
            clear HB
            have BK158 := n0_
            have HB := n1_
            clear n0_ n1_
            (try clear hb); (try clear hb2); (try clear hk); (try clear hi)
            refine hK.out _ _ ⟨(blk_cell BK158.out 0).trans rfl, (blk_cell BK158.out 1).trans rfl, (blk_cell BK158.out 2).trans rfl, (blk_cell BK158.out 3).trans rfl, crA hw161_0, crA hw161_1, crA hw161_2, crA hw161_3⟩ (fun hHeld => ?_)
            clear hK K
            refine normA ?_
            refine pureA 3 (some 15) (mkB 26 15) ?_
            refine pureA 4 (some 16) (mkB 26 31) ?_
            refine pureA 5 (some 17) (mkB 26 63) ?_
            refine takeA 6 (some 18) (mkB 26 127) ?_ rfl (Or.inl ⟨by rfl, by rintro w' ⟨s0, s1, s2, s3, s4, s5, s6, s7⟩; go_simp; with_reducible rfl⟩)
            refine oneA 7 (some 19) (mkB 26 255) (fun K hK => ?_)
            refine goes_ Tryz.func64 (by kernel_rfl) rfl #[.agg #[.int .i64 ((rd_T57 l0 x7_1).f1.f0), .int .i64 ((rd_T57 l0 x7_1).f1.f1), .string ((rd_T57 l0 x7_1).f1.f2)]] (by rfl) rfl rfl (by (try simp only [List.map_toArray, List.map_cons, List.map_nil]); first | done | rfl | (simp only [List.length_drop, List.length_take]; rfl)) ?_
            with_reducible refine (value_Check.calls ((rd_T57 l0 x7_1).f1.f0) ((rd_T57 l0 x7_1).f1.f1) ((rd_T57 l0 x7_1).f1.f2) true _ ?side1 A7.out).mono ?_
            (case side1 => exact Tabs.below HT.out (bwA))
            rintro e w27 ⟨rfl, hb⟩
            refine ⟨_, rfl, ?_⟩
            have n0_ := Aside0.mk (blk_below (g := gb158) (o := .cells #[.string ((rd_T57 l0 x7_1).f0), .int .i64 ((rd_T57 l0 x7_1).f1.f0), .int .i64 ((rd_T57 l0 x7_1).f1.f1), .string ((rd_T57 l0 x7_1).f1.f2)] 57 (0, 0)) blkA hb)
            have n1_ := Aside0.mk (below_step (bwA) hb)
            clear BK158
            clear HB
            have BK158 := n0_
            have HB := n1_
            clear n0_ n1_
            (try clear hb); (try clear hb2); (try clear hk); (try clear hi)
            refine hK.out _ _ ⟨(blk_cell BK158.out 0).trans rfl, (blk_cell BK158.out 1).trans rfl, (blk_cell BK158.out 2).trans rfl, (blk_cell BK158.out 3).trans rfl, crA hw161_0, crA hw161_1, crA hw161_2, crA hw161_3⟩ (fun hHeld => ?_)
            clear hK K
            refine normA ?_
            refine pureA 8 (some 20) (mkB 26 511) ?_
            refine pureA 9 (some 21) (mkB 26 1023) ?_
            refine pureA 10 (some 22) (mkB 26 2047) ?_
            refine pureA 11 (some 23) (mkB 26 4095) ?_
            refine pureA 12 (some 24) (mkB 26 8191) ?_
            refine pureA 13 (some 25) (mkB 26 16383) ?_
            refine pureA 14 (some 26) (mkB 26 32767) ?_
            refine pureA 15 (some 27) (mkB 26 65535) ?_
            refine pureA 16 (some 28) (mkB 26 131071) ?_
            refine pureA 17 (some 29) (mkB 26 262143) ?_
            refine pureA 18 (some 30) (mkB 26 524287) ?_
            refine pureA 20 (some 32) (mkB 26 1572863) ?_
            refine takeA 19 (some 31) (mkB 26 2097151) ?_ rfl (Or.inl ⟨by rfl, by rintro w' ⟨s0, s1, s2, s3, s4, s5, s6, s7⟩; go_simp; with_reducible rfl⟩)
            refine takeA 21 (some 33) (mkB 26 4194303) ?_ rfl (Or.inl ⟨by rfl, by rintro w' ⟨s0, s1, s2, s3, s4, s5, s6, s7⟩; go_simp; with_reducible rfl⟩)
            refine oneA 22 (some 34) (mkB 26 8388607) (fun K hK => ?_)
            refine goes_ Tryz.func65 (by kernel_rfl) rfl #[.string ((rd_T57 l0 (ji10)).f0), .string ((rd_T57 l0 x7_1).f0)] (by rfl) rfl rfl (by (try simp only [List.map_toArray, List.map_cons, List.map_nil]); first | done | (simp only [hji10]; rfl) | rfl | (simp only [List.length_drop, List.length_take]; rfl)) ?_
            with_reducible refine (name_Compare.calls k1 ((rd_T57 l0 (ji10)).f0) ((rd_T57 l0 x7_1).f0) t162 _ ?side1 A13.out).mono ?_
            (case side1 => exact Tabs.below HT.out (bwA))
            rintro e w28 ⟨rfl, hb⟩
            refine ⟨_, rfl, ?_⟩
            have n0_ := Aside0.mk (blk_below (g := gb158) (o := .cells #[.string ((rd_T57 l0 x7_1).f0), .int .i64 ((rd_T57 l0 x7_1).f1.f0), .int .i64 ((rd_T57 l0 x7_1).f1.f1), .string ((rd_T57 l0 x7_1).f1.f2)] 57 (0, 0)) blkA hb)
            have n1_ := Aside0.mk (below_step (bwA) hb)
            clear BK158
            clear HB
            have BK158 := n0_
            have HB := n1_
            clear n0_ n1_
            (try clear hb); (try clear hb2); (try clear hk); (try clear hi)
            refine hK.out _ _ ⟨(blk_cell BK158.out 0).trans rfl, (blk_cell BK158.out 1).trans rfl, (blk_cell BK158.out 2).trans rfl, (blk_cell BK158.out 3).trans rfl, crA hw161_0, crA hw161_1, crA hw161_2, crA hw161_3⟩ (fun hHeld => ?_)
            clear hK K
            refine normA ?_
            refine pureA 23 (some 35) (mkB 26 16777215) ?_
            refine pureA 24 (some 36) (mkB 26 33554431) ?_
            refine pureA 25 (some 37) (mkB 26 67108863) ?_
            refine done_ (done_of HT_.out (by kernel_rfl)) ?_
            try go_wp2
            go_roundg k1
            case measure => have := HK1.out; omega
            case rel => exact ⟨(wrap64 (x7_1 + 1)), (endS), H', ⟨by have := HK1.out; omega⟩, ⟨bwA⟩⟩
          ·rw [if_neg c12] at H
           exact absurd H (by simp)
         ·rw [if_neg c11] at H
          exact absurd H (by simp)
        ·rw [if_neg c9] at H
         have c9b0 : decide (0 < x7_1) = false := decide_eq_false c9
         clear c9
         have H' := Aside0.mk H
         clear H
         have p157 : 0 ≤ (x7_1 : Int) := odA
         have q157 : x7_1 < (l0.length : Int) := odA
         obtain ⟨ad157, e157, hx157_0, hx157_1, hx157_2, hx157_3⟩ := at_T57 HR0.out x7_1 p157 q157
         cases e157
         replace hx157_0 := crA hx157_0
         replace hx157_1 := crA hx157_1
         replace hx157_2 := crA hx157_2
         replace hx157_3 := crA hx157_3
         replace p157 := eq_true p157
         replace q157 := eq_true q157
         try go_wp2_with (first | ((with_reducible refine gate_dst (N := 4) rfl ?_); refine box_event ?hg (N := 4) ?hd (cs := #[.string (⟨#[]⟩ : ByteArray), .int .i64 0, .int .i64 0, .string (⟨#[]⟩ : ByteArray)]) (t := 57) ?hr ?_; (case hd => rfl); (case hg => rfl); (case hr => first | (go_simp; done) | (go_simp; rfl)); intro gb158 hg w29 hbox hb; have n0_ := Aside0.mk (below_step (bwA) hb); have n1_ := Aside0.mk (hbox); have n2_ := Aside0.mk ((by rw [hg]; exact (below_size (bwA)) : w.heap.size ≤ gb158)); have n3_ := Aside0.mk ((by rw [hg]; exact (below_size (bwA)) : w.heap.size ≤ gb158)); clear HB; have HB := n0_; have BK158 := n1_; have GW158 := n2_; have GE158 := n3_; clear n0_ n1_ n2_ n3_; clear hb hbox hg; have hcz30_0 : w29.cell? ⟨gb158, 0, none⟩ = some (.string (⟨#[]⟩ : ByteArray)) := (blk_cell BK158.out 0).trans rfl; have hcz30_1 : w29.cell? ⟨gb158, 1, none⟩ = some (.int .i64 0) := (blk_cell BK158.out 1).trans rfl; have hcz30_2 : w29.cell? ⟨gb158, 2, none⟩ = some (.int .i64 0) := (blk_cell BK158.out 2).trans rfl; have hcz30_3 : w29.cell? ⟨gb158, 3, none⟩ = some (.string (⟨#[]⟩ : ByteArray)) := (blk_cell BK158.out 3).trans rfl; have hfz30_0 := blk_frozen BK158.out 0; have hfz30_1 := blk_frozen BK158.out 1; have hfz30_2 := blk_frozen BK158.out 2; have hfz30_3 := blk_frozen BK158.out 3))
         have n0_ : Aside0 (((((w29.setCell ⟨gb158, 0, none⟩ (.string ((rd_T57 l0 x7_1).f0))).setCell ⟨gb158, 1, none⟩ (.int .i64 ((rd_T57 l0 x7_1).f1.f0))).setCell ⟨gb158, 2, none⟩ (.int .i64 ((rd_T57 l0 x7_1).f1.f1))).setCell ⟨gb158, 3, none⟩ (.string ((rd_T57 l0 x7_1).f1.f2))).heap[gb158]? = some (.cells #[.string ((rd_T57 l0 x7_1).f0), .int .i64 ((rd_T57 l0 x7_1).f1.f0), .int .i64 ((rd_T57 l0 x7_1).f1.f1), .string ((rd_T57 l0 x7_1).f1.f2)] 57 (0, 0))) := ⟨by (with_reducible repeat (first | refine blk_drewN ?_ _ | refine blk_drew ?_ | refine blk_alloc ?_ _)); refine blk_put (cs := #[.string ((rd_T57 l0 x7_1).f0), .int .i64 ((rd_T57 l0 x7_1).f1.f0), .int .i64 ((rd_T57 l0 x7_1).f1.f1), .string (⟨#[]⟩ : ByteArray)]) ?_ 3 _ rfl; (with_reducible repeat (first | refine blk_drewN ?_ _ | refine blk_drew ?_ | refine blk_alloc ?_ _)); refine blk_put (cs := #[.string ((rd_T57 l0 x7_1).f0), .int .i64 ((rd_T57 l0 x7_1).f1.f0), .int .i64 0, .string (⟨#[]⟩ : ByteArray)]) ?_ 2 _ rfl; (with_reducible repeat (first | refine blk_drewN ?_ _ | refine blk_drew ?_ | refine blk_alloc ?_ _)); refine blk_put (cs := #[.string ((rd_T57 l0 x7_1).f0), .int .i64 0, .int .i64 0, .string (⟨#[]⟩ : ByteArray)]) ?_ 1 _ rfl; (with_reducible repeat (first | refine blk_drewN ?_ _ | refine blk_drew ?_ | refine blk_alloc ?_ _)); refine blk_put (cs := #[.string (⟨#[]⟩ : ByteArray), .int .i64 0, .int .i64 0, .string (⟨#[]⟩ : ByteArray)]) ?_ 0 _ rfl; (with_reducible repeat (first | refine blk_drewN ?_ _ | refine blk_drew ?_ | refine blk_alloc ?_ _)); exact BK158.out⟩
         have n1_ : Aside0 (Below w.heap.size w ((((w29.setCell ⟨gb158, 0, none⟩ (.string ((rd_T57 l0 x7_1).f0))).setCell ⟨gb158, 1, none⟩ (.int .i64 ((rd_T57 l0 x7_1).f1.f0))).setCell ⟨gb158, 2, none⟩ (.int .i64 ((rd_T57 l0 x7_1).f1.f1))).setCell ⟨gb158, 3, none⟩ (.string ((rd_T57 l0 x7_1).f1.f2)))) := ⟨bwA⟩
         (try clear BK158)
         (try clear HB)
         generalize ((((w29.setCell ⟨gb158, 0, none⟩ (.string ((rd_T57 l0 x7_1).f0))).setCell ⟨gb158, 1, none⟩ (.int .i64 ((rd_T57 l0 x7_1).f1.f0))).setCell ⟨gb158, 2, none⟩ (.int .i64 ((rd_T57 l0 x7_1).f1.f1))).setCell ⟨gb158, 3, none⟩ (.string ((rd_T57 l0 x7_1).f1.f2))) = w31 at n0_ n1_ ⊢
         have BK158 := n0_
         have HB := n1_
         clear n0_ n1_
         have n0_ := Aside0.mk (blk_drew BK158.out)
         have n1_ := Aside0.mk (below_drew1 HB.out)
         clear BK158
         clear HB
         have BK158 := n0_
         have HB := n1_
         clear n0_ n1_
         refine start_ (n := 26) (S := fun w' => w'.cell? ⟨gb158, 0, none⟩ = some (.string ((rd_T57 l0 x7_1).f0)) ∧ w'.cell? ⟨gb158, 1, none⟩ = some (.int .i64 ((rd_T57 l0 x7_1).f1.f0)) ∧ w'.cell? ⟨gb158, 2, none⟩ = some (.int .i64 ((rd_T57 l0 x7_1).f1.f1)) ∧ w'.cell? ⟨gb158, 3, none⟩ = some (.string ((rd_T57 l0 x7_1).f1.f2))) (ds := []) (mkB 26 0) (by kernel_rfl) rfl rfl ⟨(blk_cell BK158.out 0).trans rfl, (blk_cell BK158.out 1).trans rfl, (blk_cell BK158.out 2).trans rfl, (blk_cell BK158.out 3).trans rfl⟩ (fun hHeld => ?_); refine with_tabW schema_Attrs.tab4 schema_Attrs.bits4 (fun HT_ HW_ => ?_)
         generalize w31.drew = w32 at BK158 HB hHeld ⊢
         refine pureA 0 (some 12) (mkB 26 1) ?_
         refine takeA 1 (some 13) (mkB 26 3) ?_ rfl (Or.inl ⟨by rfl, by rintro w' ⟨s0, s1, s2, s3⟩; go_simp; with_reducible rfl⟩)
         refine oneA 2 (some 14) (mkB 26 7) (fun K hK => ?_)
         refine goes_ Tryz.func63 (by kernel_rfl) rfl #[.string ((rd_T57 l0 x7_1).f0)] (by rfl) rfl rfl (by (try simp only [List.map_toArray, List.map_cons, List.map_nil]); first | done | rfl | (simp only [List.length_drop, List.length_take]; rfl)) ?_
         with_reducible refine (schema_simple.calls k1 ((rd_T57 l0 x7_1).f0) true _ ?side1 A5.out).mono ?_
         (case side1 => exact Tabs.below HT.out (bwA))
         rintro e w33 ⟨rfl, hb⟩
         refine ⟨_, rfl, ?_⟩
         have n0_ := Aside0.mk (blk_below (g := gb158) (o := .cells #[.string ((rd_T57 l0 x7_1).f0), .int .i64 ((rd_T57 l0 x7_1).f1.f0), .int .i64 ((rd_T57 l0 x7_1).f1.f1), .string ((rd_T57 l0 x7_1).f1.f2)] 57 (0, 0)) blkA hb)
         have n1_ := Aside0.mk (below_step (bwA) hb)
         clear BK158
         clear HB
         have BK158 := n0_
         have HB := n1_
         clear n0_ n1_
         (try clear hb); (try clear hb2); (try clear hk); (try clear hi)
         refine hK.out _ _ ⟨(blk_cell BK158.out 0).trans rfl, (blk_cell BK158.out 1).trans rfl, (blk_cell BK158.out 2).trans rfl, (blk_cell BK158.out 3).trans rfl⟩ (fun hHeld => ?_)
         clear hK K
         refine normA ?_
         refine pureA 3 (some 15) (mkB 26 15) ?_
         refine pureA 4 (some 16) (mkB 26 31) ?_
         refine pureA 5 (some 17) (mkB 26 63) ?_
         refine takeA 6 (some 18) (mkB 26 127) ?_ rfl (Or.inl ⟨by rfl, by rintro w' ⟨s0, s1, s2, s3⟩; go_simp; with_reducible rfl⟩)
         refine oneA 7 (some 19) (mkB 26 255) (fun K hK => ?_)
         refine goes_ Tryz.func64 (by kernel_rfl) rfl #[.agg #[.int .i64 ((rd_T57 l0 x7_1).f1.f0), .int .i64 ((rd_T57 l0 x7_1).f1.f1), .string ((rd_T57 l0 x7_1).f1.f2)]] (by rfl) rfl rfl (by (try simp only [List.map_toArray, List.map_cons, List.map_nil]); first | done | rfl | (simp only [List.length_drop, List.length_take]; rfl)) ?_
         with_reducible refine (value_Check.calls ((rd_T57 l0 x7_1).f1.f0) ((rd_T57 l0 x7_1).f1.f1) ((rd_T57 l0 x7_1).f1.f2) true _ ?side1 A7.out).mono ?_
         (case side1 => exact Tabs.below HT.out (bwA))
         rintro e w34 ⟨rfl, hb⟩
         refine ⟨_, rfl, ?_⟩
         have n0_ := Aside0.mk (blk_below (g := gb158) (o := .cells #[.string ((rd_T57 l0 x7_1).f0), .int .i64 ((rd_T57 l0 x7_1).f1.f0), .int .i64 ((rd_T57 l0 x7_1).f1.f1), .string ((rd_T57 l0 x7_1).f1.f2)] 57 (0, 0)) blkA hb)
         have n1_ := Aside0.mk (below_step (bwA) hb)
         clear BK158
         clear HB
         have BK158 := n0_
         have HB := n1_
         clear n0_ n1_
         (try clear hb); (try clear hb2); (try clear hk); (try clear hi)
         refine hK.out _ _ ⟨(blk_cell BK158.out 0).trans rfl, (blk_cell BK158.out 1).trans rfl, (blk_cell BK158.out 2).trans rfl, (blk_cell BK158.out 3).trans rfl⟩ (fun hHeld => ?_)
         clear hK K
         refine normA ?_
         refine pureA 8 (some 20) (mkB 26 511) ?_
         refine pureA 9 (some 21) (mkB 26 1023) ?_
         refine pureA 10 (some 22) (mkB 26 2047) ?_
         refine pureA 11 (some 23) (mkB 26 4095) ?_
         refine pureA 12 (some 24) (mkB 26 8191) ?_
         refine pureA 13 (some 25) (mkB 26 16383) ?_
         refine pureU 14 (some 26) (mkB 26 32767) ?_
         refine pureU 15 (some 27) (mkB 26 65535) ?_
         refine pureU 16 (some 28) (mkB 26 131071) ?_
         refine pureU 17 (some 29) (mkB 26 262143) ?_
         refine pureU 18 (some 30) (mkB 26 524287) ?_
         refine pureU 19 (some 31) (mkB 26 1048575) ?_
         refine pureU 20 (some 32) (mkB 26 2097151) ?_
         refine pureU 21 (some 33) (mkB 26 4194303) ?_
         refine pureU 22 (some 34) (mkB 26 8388607) ?_
         refine pureU 23 (some 35) (mkB 26 16777215) ?_
         refine pureA 24 (some 36) (mkB 26 33554431) ?_
         refine pureA 25 (some 37) (mkB 26 67108863) ?_
         refine done_ (done_of HT_.out (by kernel_rfl)) ?_
         try go_wp2
         go_roundg k1
         case measure => have := HK1.out; omega
         case rel => exact ⟨(wrap64 (x7_1 + 1)), (endS), H', ⟨by have := HK1.out; omega⟩, ⟨bwA⟩⟩
       ·replace c8 := Bool.eq_false_iff.mpr c8
        subst c8
        have H1 : (some false) = some r := by rw [if_neg (show ¬ (false = true) by decide)] at H; exact H
        clear H
        have H := H1
        clear H1
        obtain rfl := Option.some.inj H
        have p157 : 0 ≤ (x7_1 : Int) := odA
        have q157 : x7_1 < (l0.length : Int) := odA
        obtain ⟨ad157, e157, hx157_0, hx157_1, hx157_2, hx157_3⟩ := at_T57 HR0.out x7_1 p157 q157
        cases e157
        replace hx157_0 := crA hx157_0
        replace hx157_1 := crA hx157_1
        replace hx157_2 := crA hx157_2
        replace hx157_3 := crA hx157_3
        replace p157 := eq_true p157
        replace q157 := eq_true q157
        try go_wp2_with (first | ((with_reducible refine gate_dst (N := 4) rfl ?_); refine box_event ?hg (N := 4) ?hd (cs := #[.string (⟨#[]⟩ : ByteArray), .int .i64 0, .int .i64 0, .string (⟨#[]⟩ : ByteArray)]) (t := 57) ?hr ?_; (case hd => rfl); (case hg => rfl); (case hr => first | (go_simp; done) | (go_simp; rfl)); intro gb158 hg w35 hbox hb; have n0_ := Aside0.mk (below_step (bwA) hb); have n1_ := Aside0.mk (hbox); have n2_ := Aside0.mk ((by rw [hg]; exact (below_size (bwA)) : w.heap.size ≤ gb158)); have n3_ := Aside0.mk ((by rw [hg]; exact (below_size (bwA)) : w.heap.size ≤ gb158)); clear HB; have HB := n0_; have BK158 := n1_; have GW158 := n2_; have GE158 := n3_; clear n0_ n1_ n2_ n3_; clear hb hbox hg; have hcz36_0 : w35.cell? ⟨gb158, 0, none⟩ = some (.string (⟨#[]⟩ : ByteArray)) := (blk_cell BK158.out 0).trans rfl; have hcz36_1 : w35.cell? ⟨gb158, 1, none⟩ = some (.int .i64 0) := (blk_cell BK158.out 1).trans rfl; have hcz36_2 : w35.cell? ⟨gb158, 2, none⟩ = some (.int .i64 0) := (blk_cell BK158.out 2).trans rfl; have hcz36_3 : w35.cell? ⟨gb158, 3, none⟩ = some (.string (⟨#[]⟩ : ByteArray)) := (blk_cell BK158.out 3).trans rfl; have hfz36_0 := blk_frozen BK158.out 0; have hfz36_1 := blk_frozen BK158.out 1; have hfz36_2 := blk_frozen BK158.out 2; have hfz36_3 := blk_frozen BK158.out 3))
        have n0_ : Aside0 (((((w35.setCell ⟨gb158, 0, none⟩ (.string ((rd_T57 l0 x7_1).f0))).setCell ⟨gb158, 1, none⟩ (.int .i64 ((rd_T57 l0 x7_1).f1.f0))).setCell ⟨gb158, 2, none⟩ (.int .i64 ((rd_T57 l0 x7_1).f1.f1))).setCell ⟨gb158, 3, none⟩ (.string ((rd_T57 l0 x7_1).f1.f2))).heap[gb158]? = some (.cells #[.string ((rd_T57 l0 x7_1).f0), .int .i64 ((rd_T57 l0 x7_1).f1.f0), .int .i64 ((rd_T57 l0 x7_1).f1.f1), .string ((rd_T57 l0 x7_1).f1.f2)] 57 (0, 0))) := ⟨by (with_reducible repeat (first | refine blk_drewN ?_ _ | refine blk_drew ?_ | refine blk_alloc ?_ _)); refine blk_put (cs := #[.string ((rd_T57 l0 x7_1).f0), .int .i64 ((rd_T57 l0 x7_1).f1.f0), .int .i64 ((rd_T57 l0 x7_1).f1.f1), .string (⟨#[]⟩ : ByteArray)]) ?_ 3 _ rfl; (with_reducible repeat (first | refine blk_drewN ?_ _ | refine blk_drew ?_ | refine blk_alloc ?_ _)); refine blk_put (cs := #[.string ((rd_T57 l0 x7_1).f0), .int .i64 ((rd_T57 l0 x7_1).f1.f0), .int .i64 0, .string (⟨#[]⟩ : ByteArray)]) ?_ 2 _ rfl; (with_reducible repeat (first | refine blk_drewN ?_ _ | refine blk_drew ?_ | refine blk_alloc ?_ _)); refine blk_put (cs := #[.string ((rd_T57 l0 x7_1).f0), .int .i64 0, .int .i64 0, .string (⟨#[]⟩ : ByteArray)]) ?_ 1 _ rfl; (with_reducible repeat (first | refine blk_drewN ?_ _ | refine blk_drew ?_ | refine blk_alloc ?_ _)); refine blk_put (cs := #[.string (⟨#[]⟩ : ByteArray), .int .i64 0, .int .i64 0, .string (⟨#[]⟩ : ByteArray)]) ?_ 0 _ rfl; (with_reducible repeat (first | refine blk_drewN ?_ _ | refine blk_drew ?_ | refine blk_alloc ?_ _)); exact BK158.out⟩
        have n1_ : Aside0 (Below w.heap.size w ((((w35.setCell ⟨gb158, 0, none⟩ (.string ((rd_T57 l0 x7_1).f0))).setCell ⟨gb158, 1, none⟩ (.int .i64 ((rd_T57 l0 x7_1).f1.f0))).setCell ⟨gb158, 2, none⟩ (.int .i64 ((rd_T57 l0 x7_1).f1.f1))).setCell ⟨gb158, 3, none⟩ (.string ((rd_T57 l0 x7_1).f1.f2)))) := ⟨bwA⟩
        (try clear BK158)
        (try clear HB)
        generalize ((((w35.setCell ⟨gb158, 0, none⟩ (.string ((rd_T57 l0 x7_1).f0))).setCell ⟨gb158, 1, none⟩ (.int .i64 ((rd_T57 l0 x7_1).f1.f0))).setCell ⟨gb158, 2, none⟩ (.int .i64 ((rd_T57 l0 x7_1).f1.f1))).setCell ⟨gb158, 3, none⟩ (.string ((rd_T57 l0 x7_1).f1.f2))) = w37 at n0_ n1_ ⊢
        have BK158 := n0_
        have HB := n1_
        clear n0_ n1_
        have n0_ := Aside0.mk (blk_drew BK158.out)
        have n1_ := Aside0.mk (below_drew1 HB.out)
        clear BK158
        clear HB
        have BK158 := n0_
        have HB := n1_
        clear n0_ n1_
        refine start_ (n := 26) (S := fun w' => w'.cell? ⟨gb158, 0, none⟩ = some (.string ((rd_T57 l0 x7_1).f0)) ∧ w'.cell? ⟨gb158, 1, none⟩ = some (.int .i64 ((rd_T57 l0 x7_1).f1.f0)) ∧ w'.cell? ⟨gb158, 2, none⟩ = some (.int .i64 ((rd_T57 l0 x7_1).f1.f1)) ∧ w'.cell? ⟨gb158, 3, none⟩ = some (.string ((rd_T57 l0 x7_1).f1.f2))) (ds := []) (mkB 26 0) (by kernel_rfl) rfl rfl ⟨(blk_cell BK158.out 0).trans rfl, (blk_cell BK158.out 1).trans rfl, (blk_cell BK158.out 2).trans rfl, (blk_cell BK158.out 3).trans rfl⟩ (fun hHeld => ?_); refine with_tabW schema_Attrs.tab4 schema_Attrs.bits4 (fun HT_ HW_ => ?_)
        generalize w37.drew = w38 at BK158 HB hHeld ⊢
        refine pureA 0 (some 12) (mkB 26 1) ?_
        refine takeA 1 (some 13) (mkB 26 3) ?_ rfl (Or.inl ⟨by rfl, by rintro w' ⟨s0, s1, s2, s3⟩; go_simp; with_reducible rfl⟩)
        refine oneA 2 (some 14) (mkB 26 7) (fun K hK => ?_)
        refine goes_ Tryz.func63 (by kernel_rfl) rfl #[.string ((rd_T57 l0 x7_1).f0)] (by rfl) rfl rfl (by (try simp only [List.map_toArray, List.map_cons, List.map_nil]); first | done | rfl | (simp only [List.length_drop, List.length_take]; rfl)) ?_
        with_reducible refine (schema_simple.calls k1 ((rd_T57 l0 x7_1).f0) true _ ?side1 A5.out).mono ?_
        (case side1 => exact Tabs.below HT.out (bwA))
        rintro e w39 ⟨rfl, hb⟩
        refine ⟨_, rfl, ?_⟩
        have n0_ := Aside0.mk (blk_below (g := gb158) (o := .cells #[.string ((rd_T57 l0 x7_1).f0), .int .i64 ((rd_T57 l0 x7_1).f1.f0), .int .i64 ((rd_T57 l0 x7_1).f1.f1), .string ((rd_T57 l0 x7_1).f1.f2)] 57 (0, 0)) blkA hb)
        have n1_ := Aside0.mk (below_step (bwA) hb)
        clear BK158
        clear HB
        have BK158 := n0_
        have HB := n1_
        clear n0_ n1_
        (try clear hb); (try clear hb2); (try clear hk); (try clear hi)
        refine hK.out _ _ ⟨(blk_cell BK158.out 0).trans rfl, (blk_cell BK158.out 1).trans rfl, (blk_cell BK158.out 2).trans rfl, (blk_cell BK158.out 3).trans rfl⟩ (fun hHeld => ?_)
        clear hK K
        refine normA ?_
        refine pureA 3 (some 15) (mkB 26 15) ?_
        refine pureA 4 (some 16) (mkB 26 31) ?_
        refine pureA 5 (some 17) (mkB 26 63) ?_
        refine takeA 6 (some 18) (mkB 26 127) ?_ rfl (Or.inl ⟨by rfl, by rintro w' ⟨s0, s1, s2, s3⟩; go_simp; with_reducible rfl⟩)
        refine oneA 7 (some 19) (mkB 26 255) (fun K hK => ?_)
        refine goes_ Tryz.func64 (by kernel_rfl) rfl #[.agg #[.int .i64 ((rd_T57 l0 x7_1).f1.f0), .int .i64 ((rd_T57 l0 x7_1).f1.f1), .string ((rd_T57 l0 x7_1).f1.f2)]] (by rfl) rfl rfl (by (try simp only [List.map_toArray, List.map_cons, List.map_nil]); first | done | rfl | (simp only [List.length_drop, List.length_take]; rfl)) ?_
        with_reducible refine (value_Check.calls ((rd_T57 l0 x7_1).f1.f0) ((rd_T57 l0 x7_1).f1.f1) ((rd_T57 l0 x7_1).f1.f2) false _ ?side1 A7.out).mono ?_
        (case side1 => exact Tabs.below HT.out (bwA))
        rintro e w40 ⟨rfl, hb⟩
        refine ⟨_, rfl, ?_⟩
        have n0_ := Aside0.mk (blk_below (g := gb158) (o := .cells #[.string ((rd_T57 l0 x7_1).f0), .int .i64 ((rd_T57 l0 x7_1).f1.f0), .int .i64 ((rd_T57 l0 x7_1).f1.f1), .string ((rd_T57 l0 x7_1).f1.f2)] 57 (0, 0)) blkA hb)
        have n1_ := Aside0.mk (below_step (bwA) hb)
        clear BK158
        clear HB
        have BK158 := n0_
        have HB := n1_
        clear n0_ n1_
        (try clear hb); (try clear hb2); (try clear hk); (try clear hi)
        refine hK.out _ _ ⟨(blk_cell BK158.out 0).trans rfl, (blk_cell BK158.out 1).trans rfl, (blk_cell BK158.out 2).trans rfl, (blk_cell BK158.out 3).trans rfl⟩ (fun hHeld => ?_)
        clear hK K
        refine normA ?_
        refine pureA 8 (some 20) (mkB 26 511) ?_
        refine pureA 9 (some 21) (mkB 26 1023) ?_
        refine pureA 10 (some 22) (mkB 26 2047) ?_
        refine pureU 11 (some 23) (mkB 26 4095) ?_
        refine pureU 12 (some 24) (mkB 26 8191) ?_
        refine pureU 13 (some 25) (mkB 26 16383) ?_
        refine pureU 14 (some 26) (mkB 26 32767) ?_
        refine pureU 15 (some 27) (mkB 26 65535) ?_
        refine pureU 16 (some 28) (mkB 26 131071) ?_
        refine pureU 17 (some 29) (mkB 26 262143) ?_
        refine pureU 18 (some 30) (mkB 26 524287) ?_
        refine pureU 19 (some 31) (mkB 26 1048575) ?_
        refine pureU 20 (some 32) (mkB 26 2097151) ?_
        refine pureU 21 (some 33) (mkB 26 4194303) ?_
        refine pureU 22 (some 34) (mkB 26 8388607) ?_
        refine pureU 23 (some 35) (mkB 26 16777215) ?_
        refine pureU 24 (some 36) (mkB 26 33554431) ?_
        refine pureA 25 (some 37) (mkB 26 67108863) ?_
        refine done_ (done_of HT_.out (by kernel_rfl)) ?_
        try go_wp2
        go_ret
        exact ⟨endA, bwA⟩
      ·replace c6 := Bool.eq_false_iff.mpr c6
       subst c6
       have H1 : (some false) = some r := by rw [if_neg (show ¬ (false = true) by decide)] at H; exact H
       clear H
       have H := H1
       clear H1
       obtain rfl := Option.some.inj H
       have p157 : 0 ≤ (x7_1 : Int) := odA
       have q157 : x7_1 < (l0.length : Int) := odA
       obtain ⟨ad157, e157, hx157_0, hx157_1, hx157_2, hx157_3⟩ := at_T57 HR0.out x7_1 p157 q157
       cases e157
       replace hx157_0 := crA hx157_0
       replace hx157_1 := crA hx157_1
       replace hx157_2 := crA hx157_2
       replace hx157_3 := crA hx157_3
       replace p157 := eq_true p157
       replace q157 := eq_true q157
       try go_wp2_with (first | ((with_reducible refine gate_dst (N := 4) rfl ?_); refine box_event ?hg (N := 4) ?hd (cs := #[.string (⟨#[]⟩ : ByteArray), .int .i64 0, .int .i64 0, .string (⟨#[]⟩ : ByteArray)]) (t := 57) ?hr ?_; (case hd => rfl); (case hg => rfl); (case hr => first | (go_simp; done) | (go_simp; rfl)); intro gb158 hg w41 hbox hb; have n0_ := Aside0.mk (below_step (bwA) hb); have n1_ := Aside0.mk (hbox); have n2_ := Aside0.mk ((by rw [hg]; exact (below_size (bwA)) : w.heap.size ≤ gb158)); have n3_ := Aside0.mk ((by rw [hg]; exact (below_size (bwA)) : w.heap.size ≤ gb158)); clear HB; have HB := n0_; have BK158 := n1_; have GW158 := n2_; have GE158 := n3_; clear n0_ n1_ n2_ n3_; clear hb hbox hg; have hcz42_0 : w41.cell? ⟨gb158, 0, none⟩ = some (.string (⟨#[]⟩ : ByteArray)) := (blk_cell BK158.out 0).trans rfl; have hcz42_1 : w41.cell? ⟨gb158, 1, none⟩ = some (.int .i64 0) := (blk_cell BK158.out 1).trans rfl; have hcz42_2 : w41.cell? ⟨gb158, 2, none⟩ = some (.int .i64 0) := (blk_cell BK158.out 2).trans rfl; have hcz42_3 : w41.cell? ⟨gb158, 3, none⟩ = some (.string (⟨#[]⟩ : ByteArray)) := (blk_cell BK158.out 3).trans rfl; have hfz42_0 := blk_frozen BK158.out 0; have hfz42_1 := blk_frozen BK158.out 1; have hfz42_2 := blk_frozen BK158.out 2; have hfz42_3 := blk_frozen BK158.out 3))
       have n0_ : Aside0 (((((w41.setCell ⟨gb158, 0, none⟩ (.string ((rd_T57 l0 x7_1).f0))).setCell ⟨gb158, 1, none⟩ (.int .i64 ((rd_T57 l0 x7_1).f1.f0))).setCell ⟨gb158, 2, none⟩ (.int .i64 ((rd_T57 l0 x7_1).f1.f1))).setCell ⟨gb158, 3, none⟩ (.string ((rd_T57 l0 x7_1).f1.f2))).heap[gb158]? = some (.cells #[.string ((rd_T57 l0 x7_1).f0), .int .i64 ((rd_T57 l0 x7_1).f1.f0), .int .i64 ((rd_T57 l0 x7_1).f1.f1), .string ((rd_T57 l0 x7_1).f1.f2)] 57 (0, 0))) := ⟨by (with_reducible repeat (first | refine blk_drewN ?_ _ | refine blk_drew ?_ | refine blk_alloc ?_ _)); refine blk_put (cs := #[.string ((rd_T57 l0 x7_1).f0), .int .i64 ((rd_T57 l0 x7_1).f1.f0), .int .i64 ((rd_T57 l0 x7_1).f1.f1), .string (⟨#[]⟩ : ByteArray)]) ?_ 3 _ rfl; (with_reducible repeat (first | refine blk_drewN ?_ _ | refine blk_drew ?_ | refine blk_alloc ?_ _)); refine blk_put (cs := #[.string ((rd_T57 l0 x7_1).f0), .int .i64 ((rd_T57 l0 x7_1).f1.f0), .int .i64 0, .string (⟨#[]⟩ : ByteArray)]) ?_ 2 _ rfl; (with_reducible repeat (first | refine blk_drewN ?_ _ | refine blk_drew ?_ | refine blk_alloc ?_ _)); refine blk_put (cs := #[.string ((rd_T57 l0 x7_1).f0), .int .i64 0, .int .i64 0, .string (⟨#[]⟩ : ByteArray)]) ?_ 1 _ rfl; (with_reducible repeat (first | refine blk_drewN ?_ _ | refine blk_drew ?_ | refine blk_alloc ?_ _)); refine blk_put (cs := #[.string (⟨#[]⟩ : ByteArray), .int .i64 0, .int .i64 0, .string (⟨#[]⟩ : ByteArray)]) ?_ 0 _ rfl; (with_reducible repeat (first | refine blk_drewN ?_ _ | refine blk_drew ?_ | refine blk_alloc ?_ _)); exact BK158.out⟩
       have n1_ : Aside0 (Below w.heap.size w ((((w41.setCell ⟨gb158, 0, none⟩ (.string ((rd_T57 l0 x7_1).f0))).setCell ⟨gb158, 1, none⟩ (.int .i64 ((rd_T57 l0 x7_1).f1.f0))).setCell ⟨gb158, 2, none⟩ (.int .i64 ((rd_T57 l0 x7_1).f1.f1))).setCell ⟨gb158, 3, none⟩ (.string ((rd_T57 l0 x7_1).f1.f2)))) := ⟨bwA⟩
       (try clear BK158)
       (try clear HB)
       generalize ((((w41.setCell ⟨gb158, 0, none⟩ (.string ((rd_T57 l0 x7_1).f0))).setCell ⟨gb158, 1, none⟩ (.int .i64 ((rd_T57 l0 x7_1).f1.f0))).setCell ⟨gb158, 2, none⟩ (.int .i64 ((rd_T57 l0 x7_1).f1.f1))).setCell ⟨gb158, 3, none⟩ (.string ((rd_T57 l0 x7_1).f1.f2))) = w43 at n0_ n1_ ⊢
       have BK158 := n0_
       have HB := n1_
       clear n0_ n1_
       have n0_ := Aside0.mk (blk_drew BK158.out)
       have n1_ := Aside0.mk (below_drew1 HB.out)
       clear BK158
       clear HB
       have BK158 := n0_
       have HB := n1_
       clear n0_ n1_
       refine start_ (n := 26) (S := fun w' => w'.cell? ⟨gb158, 0, none⟩ = some (.string ((rd_T57 l0 x7_1).f0)) ∧ w'.cell? ⟨gb158, 1, none⟩ = some (.int .i64 ((rd_T57 l0 x7_1).f1.f0)) ∧ w'.cell? ⟨gb158, 2, none⟩ = some (.int .i64 ((rd_T57 l0 x7_1).f1.f1)) ∧ w'.cell? ⟨gb158, 3, none⟩ = some (.string ((rd_T57 l0 x7_1).f1.f2))) (ds := []) (mkB 26 0) (by kernel_rfl) rfl rfl ⟨(blk_cell BK158.out 0).trans rfl, (blk_cell BK158.out 1).trans rfl, (blk_cell BK158.out 2).trans rfl, (blk_cell BK158.out 3).trans rfl⟩ (fun hHeld => ?_); refine with_tabW schema_Attrs.tab4 schema_Attrs.bits4 (fun HT_ HW_ => ?_)
       generalize w43.drew = w44 at BK158 HB hHeld ⊢
       refine pureA 0 (some 12) (mkB 26 1) ?_
       refine takeA 1 (some 13) (mkB 26 3) ?_ rfl (Or.inl ⟨by rfl, by rintro w' ⟨s0, s1, s2, s3⟩; go_simp; with_reducible rfl⟩)
       refine oneA 2 (some 14) (mkB 26 7) (fun K hK => ?_)
       refine goes_ Tryz.func63 (by kernel_rfl) rfl #[.string ((rd_T57 l0 x7_1).f0)] (by rfl) rfl rfl (by (try simp only [List.map_toArray, List.map_cons, List.map_nil]); first | done | rfl | (simp only [List.length_drop, List.length_take]; rfl)) ?_
       with_reducible refine (schema_simple.calls k1 ((rd_T57 l0 x7_1).f0) false _ ?side1 A5.out).mono ?_
       (case side1 => exact Tabs.below HT.out (bwA))
       rintro e w45 ⟨rfl, hb⟩
       refine ⟨_, rfl, ?_⟩
       have n0_ := Aside0.mk (blk_below (g := gb158) (o := .cells #[.string ((rd_T57 l0 x7_1).f0), .int .i64 ((rd_T57 l0 x7_1).f1.f0), .int .i64 ((rd_T57 l0 x7_1).f1.f1), .string ((rd_T57 l0 x7_1).f1.f2)] 57 (0, 0)) blkA hb)
       have n1_ := Aside0.mk (below_step (bwA) hb)
       clear BK158
       clear HB
       have BK158 := n0_
       have HB := n1_
       clear n0_ n1_
       (try clear hb); (try clear hb2); (try clear hk); (try clear hi)
       refine hK.out _ _ ⟨(blk_cell BK158.out 0).trans rfl, (blk_cell BK158.out 1).trans rfl, (blk_cell BK158.out 2).trans rfl, (blk_cell BK158.out 3).trans rfl⟩ (fun hHeld => ?_)
       clear hK K
       refine normA ?_
       refine pureA 3 (some 15) (mkB 26 15) ?_
       refine pureA 4 (some 16) (mkB 26 31) ?_
       refine pureU 5 (some 17) (mkB 26 63) ?_
       refine pureU 6 (some 18) (mkB 26 127) ?_
       refine pureU 7 (some 19) (mkB 26 255) ?_
       refine pureU 8 (some 20) (mkB 26 511) ?_
       refine pureA 9 (some 21) (mkB 26 1023) ?_
       refine pureA 10 (some 22) (mkB 26 2047) ?_
       refine pureU 11 (some 23) (mkB 26 4095) ?_
       refine pureU 12 (some 24) (mkB 26 8191) ?_
       refine pureU 13 (some 25) (mkB 26 16383) ?_
       refine pureU 14 (some 26) (mkB 26 32767) ?_
       refine pureU 15 (some 27) (mkB 26 65535) ?_
       refine pureU 16 (some 28) (mkB 26 131071) ?_
       refine pureU 17 (some 29) (mkB 26 262143) ?_
       refine pureU 18 (some 30) (mkB 26 524287) ?_
       refine pureU 19 (some 31) (mkB 26 1048575) ?_
       refine pureU 20 (some 32) (mkB 26 2097151) ?_
       refine pureU 21 (some 33) (mkB 26 4194303) ?_
       refine pureU 22 (some 34) (mkB 26 8388607) ?_
       refine pureU 23 (some 35) (mkB 26 16777215) ?_
       refine pureU 24 (some 36) (mkB 26 33554431) ?_
       refine pureA 25 (some 37) (mkB 26 67108863) ?_
       refine done_ (done_of HT_.out (by kernel_rfl)) ?_
       try go_wp2
       go_ret
       exact ⟨endA, bwA⟩
     ·rw [if_neg c4] at H
      exact absurd H (by simp)
    ·rw [if_neg c3] at H
     exact absurd H (by simp)
   ·rw [if_neg c2] at H
    have c2b0 : decide (x7_1 < (l0.length : Int)) = false := decide_eq_false c2
    clear c2
    obtain rfl := Option.some.inj H
    go_wp2
    go_ret
    exact ⟨endA, bwA⟩

end Go.Proofs.YtplemgmfnghoeaaGreatDoor.A
