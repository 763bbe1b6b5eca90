-- By drv.py, the session's own driver round the kit's print: the machine's side of the laws, function by function. Not trusted: Lean checks it.
import Derived.Test.YtbbfggfiknbdmaaDoorAx0
import Derived.Test.YtbbfggfiknbdmaaDoorAx3
import Derived.Test.YtbbfggfiknbdmaaDoorAx5
namespace Go.Proofs.YtbbfggfiknbdmaaDoor.A
open Go.RowKit Go.Proofs.YtbbfggfiknbdmaaDoorW.PrintWords Go.Proofs.YtbbfggfiknbdmaaDoorW.PrintLast Go.Proofs.YtbbfggfiknbdmaaDoorW.PrintMore
attribute [local go_sem] max2_int min2_int max_two min_two max_three min_three max_four min_four   -- for this text's walks alone
set_option linter.unusedVariables false
set_option linter.unusedSimpArgs false

/-! ### schema_Check: function 15 -/
def schema_Check.l0 : Nat → List (S35) → List (S35) → Int → Int → Option (Bool)
 | 0, _, _, _, _ => none
 | k + 1, x0, x5, x6, x7 => if x7 < x6 then (if 0 ≤ x7 then (if x7 < (x5.length : Int) then ((schema_field.f k ((rd_T35 x5 x7).f0) ((rd_T35 x5 x7).f1) ((rd_T35 x5 x7).f2)).bind fun t141 => (if t141 = true then (if x7 > 0 then (if 0 ≤ (wrap64 (x7 - 1)) then (if (wrap64 (x7 - 1)) < (x0.length : Int) then ((name_Compare.f k ((rd_T35 x0 (wrap64 (x7 - 1))).f0) ((rd_T35 x5 x7).f0)).bind fun t143 => (if t143 ≥ 0 then (some false) else (schema_Check.l0 k x0 x5 x6 (wrap64 (x7 + 1))))) else (none)) else (none)) else (schema_Check.l0 k x0 x5 x6 (wrap64 (x7 + 1)))) else (some false))) else (none)) else (none)) else (some (decide ((x0.length : Int) ≤ 24)))
def schema_Check.f (k : Nat) (l0 : List (S35)) : Option (Bool) := schema_Check.l0 k l0 l0 (l0.length : Int) 0
theorem schema_Check.mono_l : ∀ k, (∀ y0 y1 y2 y3, LeO (schema_Check.l0 k y0 y1 y2 y3) (schema_Check.l0 (k + 1) y0 y1 y2 y3))
 | 0 => fun _ _ _ _ r h => by simp [schema_Check.l0] at h
 | k + 1 => by
  have ih0 := schema_Check.mono_l k
  ·intro y0 y1 y2 y3
   unfold schema_Check.l0
   repeat' first
   | (with_reducible exact ih0 _ _ _ _)
   | (with_reducible exact name_Compare.mono _ _ _)
   | (with_reducible exact schema_field.mono _ _ _ _)
   | (with_reducible exact LeO.refl _)
   | (with_reducible exact LeO.none _)
   | (with_reducible refine LeO.ite ?_ ?_)
   | (with_reducible refine LeO.bind ?_ (fun _ => ?_))
   | exact ih0 _ _ _ _
   | exact name_Compare.mono _ _ _
   | exact schema_field.mono _ _ _ _
   | exact LeO.none _
   | refine LeO.ite ?_ ?_
   | refine LeO.bind ?_ (fun _ => ?_)
theorem schema_Check.mono : ∀ a0 k, LeO (schema_Check.f k a0) (schema_Check.f (k + 1) a0) := by
 intro a0 k
 have ih0 := schema_Check.mono_l k
 unfold schema_Check.f
 repeat' first
   | (with_reducible exact ih0 _ _ _ _)
   | (with_reducible exact name_Compare.mono _ _ _)
   | (with_reducible exact schema_field.mono _ _ _ _)
   | (with_reducible exact LeO.refl _)
   | (with_reducible exact LeO.none _)
   | (with_reducible refine LeO.ite ?_ ?_)
   | (with_reducible refine LeO.bind ?_ (fun _ => ?_))
   | exact ih0 _ _ _ _
   | exact name_Compare.mono _ _ _
   | exact schema_field.mono _ _ _ _
   | exact LeO.none _
   | refine LeO.ite ?_ ?_
   | refine LeO.bind ?_ (fun _ => ?_)
def schema_Check.T4 : Bool × List (List Nat × List Nat) := (true, [([], []), ([0], [0]), ([1], [1]), ([2, 1], [2]), ([3], [3]), ([4, 3], [3, 4]), ([5, 3, 3], [3, 5]), ([6], [6]), ([6], [6]), ([8, 6], [6, 8]), ([7, 9, 6], [6, 7, 9]), ([10, 6], [6, 10]), ([11, 6], [6, 11]), ([6], [6]), ([13, 6], [6, 13]), ([12, 14, 6, 6], [6, 12, 14]), ([15, 6], [6, 15]), ([6, 16, 3], [3, 6, 16]), ([3, 17], [3, 17])])
def schema_Check.B4 : List Nat := [0, 1, 3, 7, 15, 31, 63, 127, 127, 383, 1023, 2047, 4095, 127, 8319, 32767, 65535, 131071, 262143]
theorem schema_Check.tab4 : rtab .any (opsOf Tryd.f15 4) = schema_Check.T4 := by kernel_rfl
theorem schema_Check.bits4 : waitsOk schema_Check.T4.2 schema_Check.B4 = true := by kernel_rfl
set_option maxHeartbeats 8000000 in
set_option maxRecDepth 100000 in
theorem schema_Check.calls (k : Nat) (A0 : Option Addr) (c0 : Nat) (l0 : List (S35)) (r : Bool) (w : World) (hr0 : Kd.C k35 w A0 l0.length l0) (hc0 : l0.length ≤ c0) (hT : Tabs w) (h : schema_Check.f k l0 = some r) :
  Calls Tryd.prog 15 #[.slice A0 l0.length c0] w fun e w' => e = .returned (.bool r) ∧ Below w.heap.size w w' := by
 have hu35 := Tryd.underlying35
 have HR0 := Aside0.mk hr0
 have HC0 := Aside0.mk hc0
 clear hr0 hc0
 have HB := Aside0.mk (Below.refl w.heap.size w)
 have H : (schema_Check.l0 k l0 l0 (l0.length : Int) 0) = some r := h
 clear h
 have HT := Aside0.mk hT
 clear hT
 have H' := Aside0.mk H
 clear H
 go_enter Tryd.func15, Tryd.ntmps15
 go_wp2
 go_loopg [7] k (fun kq v7 w' => ∃ (x7_1 : Int), v7 = .int .i64 x7_1 ∧ Aside0 (schema_Check.l0 kq l0 l0 (l0.length : Int) x7_1 = some r) ∧ Aside0 (kq ≤ k) ∧ Aside0 (Below w.heap.size w w'))
 case atStart => exact ⟨(0), (endS), H', ⟨Nat.le_refl _⟩, ⟨bwA⟩⟩
 case round =>
  clear H'
  try clear c1
  obtain ⟨x7_1, rfl, HA, HK1, HB⟩ := hrel
  cases gk with
  | zero => exact absurd HA.out (by simp [schema_Check.l0])
  | succ k1 =>
   have H := HA.out
   clear HA
   simp only [schema_Check.l0] at H
   by_cases c2 : x7_1 < (l0.length : Int)
   ·rw [if_pos c2] at H
    have c2b0 : decide (x7_1 < (l0.length : Int)) = true := decide_eq_true c2
    clear c2
    by_cases c3 : 0 ≤ x7_1
    ·rw [if_pos c3] at H
     have c3b0 : decide (0 ≤ x7_1) = true := decide_eq_true c3
     clear c3
     by_cases c4 : x7_1 < (l0.length : Int)
     ·rw [if_pos c4] at H
      have c4b0 : decide (x7_1 < (l0.length : Int)) = true := decide_eq_true c4
      clear c4
      replace H := Option.bind_eq_some_iff.mp H
      obtain ⟨t141, A50, H⟩ := H
      replace H : (if t141 = true then (if x7_1 > 0 then (if 0 ≤ (wrap64 (x7_1 - 1)) then (if (wrap64 (x7_1 - 1)) < (l0.length : Int) then ((name_Compare.f k1 ((rd_T35 l0 (wrap64 (x7_1 - 1))).f0) ((rd_T35 l0 x7_1).f0)).bind fun t143 => (if t143 ≥ 0 then (some false) else (schema_Check.l0 k1 l0 l0 (l0.length : Int) (wrap64 (x7_1 + 1))))) else (none)) else (none)) else (schema_Check.l0 k1 l0 l0 (l0.length : Int) (wrap64 (x7_1 + 1)))) else (some false)) = some r := H
      have A5 := Aside0.mk A50
      clear A50
      by_cases c6 : t141 = true
      ·subst c6
       have H1 : (if x7_1 > 0 then (if 0 ≤ (wrap64 (x7_1 - 1)) then (if (wrap64 (x7_1 - 1)) < (l0.length : Int) then ((name_Compare.f k1 ((rd_T35 l0 (wrap64 (x7_1 - 1))).f0) ((rd_T35 l0 x7_1).f0)).bind fun t143 => (if t143 ≥ 0 then (some false) else (schema_Check.l0 k1 l0 l0 (l0.length : Int) (wrap64 (x7_1 + 1))))) else (none)) else (none)) else (schema_Check.l0 k1 l0 l0 (l0.length : Int) (wrap64 (x7_1 + 1)))) = some r := by rw [if_pos rfl] at H; exact H
       clear H
       have H := H1
       clear H1
       by_cases c7 : x7_1 > 0
       ·rw [if_pos c7] at H
        have c7b0 : decide (0 < x7_1) = true := decide_eq_true c7
        clear c7
        obtain ⟨ji8, hji8⟩ : ∃ j_ : Int, (wrap64 (x7_1 - 1)) = j_ := ⟨_, rfl⟩
        replace H : (if 0 ≤ (ji8) then (if (ji8) < (l0.length : Int) then ((name_Compare.f k1 ((rd_T35 l0 (ji8)).f0) ((rd_T35 l0 x7_1).f0)).bind fun t143 => (if t143 ≥ 0 then (some false) else (schema_Check.l0 k1 l0 l0 (l0.length : Int) (wrap64 (x7_1 + 1))))) else (none)) else (none)) = some r := by first | (rw [hji8] at H; exact H) | (simp only [hji8] at H ⊢; exact H)
        (try rw [hji8] at A5)
        have hji8w : (IntKind.i64.wrap (x7_1 - 1)) = ji8 := (i64_w _).trans hji8
        by_cases c9 : 0 ≤ (ji8)
        ·rw [if_pos c9] at H
         have c9b0 : decide (0 ≤ (ji8)) = true := decide_eq_true c9
         clear c9
         by_cases c10 : (ji8) < (l0.length : Int)
         ·rw [if_pos c10] at H
          have c10b0 : decide ((ji8) < (l0.length : Int)) = true := decide_eq_true c10
          clear c10
          replace H := Option.bind_eq_some_iff.mp H
          obtain ⟨t143, A110, H⟩ := H
          replace H : (if t143 ≥ 0 then (some false) else (schema_Check.l0 k1 l0 l0 (l0.length : Int) (wrap64 (x7_1 + 1)))) = some r := H
          have A11 := Aside0.mk A110
          clear A110
          by_cases c12 : t143 ≥ 0
          ·rw [if_pos c12] at H
           have c12b0 : decide (0 ≤ t143) = true := decide_eq_true c12
           clear c12
           obtain rfl := Option.some.inj H
           have p139 : 0 ≤ (x7_1 : Int) := odA
           have q139 : x7_1 < (l0.length : Int) := odA
           obtain ⟨ad139, e139, hx139_0, hx139_1, hx139_2⟩ := at_T35 HR0.out x7_1 p139 q139
           cases e139
           replace hx139_0 := crA hx139_0
           replace hx139_1 := crA hx139_1
           replace hx139_2 := crA hx139_2
           replace p139 := eq_true p139
           replace q139 := eq_true q139
           try go_wp2_with (first | ((with_reducible refine gate_dst (N := 4) rfl ?_); refine box_event ?hg (N := 4) ?hd (cs := #[.string (⟨#[]⟩ : ByteArray), .int .i64 0, .bool false]) (t := 35) ?hr ?_; (case hd => rfl); (case hg => rfl); (case hr => first | (go_simp; done) | (go_simp; rfl)); intro gb140 hg w13 hbox hb; have n0_ := Aside0.mk (below_step (bwA) hb); have n1_ := Aside0.mk (hbox); have n2_ := Aside0.mk ((by rw [hg]; exact (below_size (bwA)) : w.heap.size ≤ gb140)); have n3_ := Aside0.mk ((by rw [hg]; exact (below_size (bwA)) : w.heap.size ≤ gb140)); clear HB; have HB := n0_; have BK140 := n1_; have GW140 := n2_; have GE140 := n3_; clear n0_ n1_ n2_ n3_; clear hb hbox hg; have hcz14_0 : w13.cell? ⟨gb140, 0, none⟩ = some (.string (⟨#[]⟩ : ByteArray)) := (blk_cell BK140.out 0).trans rfl; have hcz14_1 : w13.cell? ⟨gb140, 1, none⟩ = some (.int .i64 0) := (blk_cell BK140.out 1).trans rfl; have hcz14_2 : w13.cell? ⟨gb140, 2, none⟩ = some (.bool false) := (blk_cell BK140.out 2).trans rfl; have hfz14_0 := blk_frozen BK140.out 0; have hfz14_1 := blk_frozen BK140.out 1; have hfz14_2 := blk_frozen BK140.out 2))
           have n0_ : Aside0 ((((w13.setCell ⟨gb140, 0, none⟩ (.string ((rd_T35 l0 x7_1).f0))).setCell ⟨gb140, 1, none⟩ (.int .i64 ((rd_T35 l0 x7_1).f1))).setCell ⟨gb140, 2, none⟩ (.bool ((rd_T35 l0 x7_1).f2))).heap[gb140]? = some (.cells #[.string ((rd_T35 l0 x7_1).f0), .int .i64 ((rd_T35 l0 x7_1).f1), .bool ((rd_T35 l0 x7_1).f2)] 35 (0, 0))) := ⟨by (with_reducible repeat (first | refine blk_drewN ?_ _ | refine blk_drew ?_ | refine blk_alloc ?_ _)); refine blk_put (cs := #[.string ((rd_T35 l0 x7_1).f0), .int .i64 ((rd_T35 l0 x7_1).f1), .bool false]) ?_ 2 _ rfl; (with_reducible repeat (first | refine blk_drewN ?_ _ | refine blk_drew ?_ | refine blk_alloc ?_ _)); refine blk_put (cs := #[.string ((rd_T35 l0 x7_1).f0), .int .i64 0, .bool false]) ?_ 1 _ rfl; (with_reducible repeat (first | refine blk_drewN ?_ _ | refine blk_drew ?_ | refine blk_alloc ?_ _)); refine blk_put (cs := #[.string (⟨#[]⟩ : ByteArray), .int .i64 0, .bool false]) ?_ 0 _ rfl; (with_reducible repeat (first | refine blk_drewN ?_ _ | refine blk_drew ?_ | refine blk_alloc ?_ _)); exact BK140.out⟩
           have n1_ : Aside0 (Below w.heap.size w (((w13.setCell ⟨gb140, 0, none⟩ (.string ((rd_T35 l0 x7_1).f0))).setCell ⟨gb140, 1, none⟩ (.int .i64 ((rd_T35 l0 x7_1).f1))).setCell ⟨gb140, 2, none⟩ (.bool ((rd_T35 l0 x7_1).f2)))) := ⟨bwA⟩
           (try clear BK140)
           (try clear HB)
           generalize (((w13.setCell ⟨gb140, 0, none⟩ (.string ((rd_T35 l0 x7_1).f0))).setCell ⟨gb140, 1, none⟩ (.int .i64 ((rd_T35 l0 x7_1).f1))).setCell ⟨gb140, 2, none⟩ (.bool ((rd_T35 l0 x7_1).f2))) = w15 at n0_ n1_ ⊢
           have BK140 := n0_
           have HB := n1_
           clear n0_ n1_
           have n0_ := Aside0.mk (blk_drew BK140.out)
           have n1_ := Aside0.mk (below_drew1 HB.out)
           clear BK140
           clear HB
           have BK140 := n0_
           have HB := n1_
           clear n0_ n1_
           have p142 : 0 ≤ ((ji8) : Int) := odA
           have q142 : (ji8) < (l0.length : Int) := odA
           obtain ⟨ad142, e142, hx142_0, hx142_1, hx142_2⟩ := at_T35 HR0.out (ji8) p142 q142
           have hw142_2 := hx142_2
           have hw142_1 := hx142_1
           have hw142_0 := hx142_0
           obtain rfl : ad139 = ad142 := (by injection e142)
           replace hx142_0 := crA hx142_0
           replace hx142_1 := crA hx142_1
           replace hx142_2 := crA hx142_2
           replace p142 := eq_true p142
           replace q142 := eq_true q142
           refine start_ (n := 19) (S := fun w' => w'.cell? ⟨gb140, 0, none⟩ = some (.string ((rd_T35 l0 x7_1).f0)) ∧ w'.cell? ⟨gb140, 1, none⟩ = some (.int .i64 ((rd_T35 l0 x7_1).f1)) ∧ w'.cell? ⟨gb140, 2, none⟩ = some (.bool ((rd_T35 l0 x7_1).f2)) ∧ w'.cell? (ad139.add (((ji8)).toNat * 3)) = some (.string ((rd_T35 l0 (ji8)).f0)) ∧ w'.cell? ⟨(ad139.add (((ji8)).toNat * 3)).block, (ad139.add (((ji8)).toNat * 3)).off + 1, none⟩ = some (.int .i64 ((rd_T35 l0 (ji8)).f1)) ∧ w'.cell? ⟨(ad139.add (((ji8)).toNat * 3)).block, (ad139.add (((ji8)).toNat * 3)).off + 2, none⟩ = some (.bool ((rd_T35 l0 (ji8)).f2))) (ds := []) (mkB 19 0) (by kernel_rfl) rfl rfl ⟨(blk_cell BK140.out 0).trans rfl, (blk_cell BK140.out 1).trans rfl, (blk_cell BK140.out 2).trans rfl, crA hw142_0, crA hw142_1, crA hw142_2⟩ (fun hHeld => ?_); refine with_tabW schema_Check.tab4 schema_Check.bits4 (fun HT_ HW_ => ?_)
           generalize w15.drew = w16 at BK140 HB hx142_0 hx142_1 hx142_2 hHeld ⊢
           refine takeA 0 (some 12) (mkB 19 1) ?_ rfl (Or.inl ⟨by rfl, by rintro w' ⟨s0, s1, s2, s3, s4, s5⟩; go_simp; with_reducible rfl⟩)
           refine oneA 1 (some 13) (mkB 19 3) (fun K hK => ?_)
           refine goes_ Tryd.func28 (by kernel_rfl) rfl #[.agg #[.string ((rd_T35 l0 x7_1).f0), .int .i64 ((rd_T35 l0 x7_1).f1), .bool ((rd_T35 l0 x7_1).f2)]] (by rfl) rfl rfl (by (try simp only [List.map_toArray, List.map_cons, List.map_nil]); first | done | rfl | (simp only [List.length_drop, List.length_take]; rfl)) ?_
           with_reducible refine (schema_field.calls k1 ((rd_T35 l0 x7_1).f0) ((rd_T35 l0 x7_1).f1) ((rd_T35 l0 x7_1).f2) true _ ?side1 A5.out).mono ?_
           (case side1 => exact Tabs.below HT.out (bwA))
           rintro e w17 ⟨rfl, hb⟩
           refine ⟨_, rfl, ?_⟩
           have n0_ := Aside0.mk (blk_below (g := gb140) (o := .cells #[.string ((rd_T35 l0 x7_1).f0), .int .i64 ((rd_T35 l0 x7_1).f1), .bool ((rd_T35 l0 x7_1).f2)] 35 (0, 0)) blkA hb)
           have n1_ := Aside0.mk (below_step (bwA) hb)
           clear BK140
           clear HB
           have BK140 := n0_
           have HB := n1_
           clear n0_ n1_
           (try clear hb); (try clear hb2); (try clear hk); (try clear hi)
           refine hK.out _ _ ⟨(blk_cell BK140.out 0).trans rfl, (blk_cell BK140.out 1).trans rfl, (blk_cell BK140.out 2).trans rfl, crA hw142_0, crA hw142_1, crA hw142_2⟩ (fun hHeld => ?_)
           clear hK K
           refine normA ?_
           refine pureA 2 (some 14) (mkB 19 7) ?_
           refine pureA 3 (some 15) (mkB 19 15) ?_
           refine pureA 4 (some 16) (mkB 19 31) ?_
           refine pureA 5 (some 17) (mkB 19 63) ?_
           refine pureA 6 (some 18) (mkB 19 127) ?_
           refine pureA 7 (some 19) (mkB 19 255) ?_
           refine pureA 8 (some 20) (mkB 19 511) ?_
           refine pureA 9 (some 21) (mkB 19 1023) ?_
           refine pureA 10 (some 22) (mkB 19 2047) ?_
           refine pureA 11 (some 23) (mkB 19 4095) ?_
           refine pureA 13 (some 25) (mkB 19 12287) ?_
           refine takeA 12 (some 24) (mkB 19 16383) ?_ rfl (Or.inl ⟨by rfl, by rintro w' ⟨s0, s1, s2, s3, s4, s5⟩; go_simp; with_reducible rfl⟩)
           refine takeA 14 (some 26) (mkB 19 32767) ?_ rfl (Or.inl ⟨by rfl, by rintro w' ⟨s0, s1, s2, s3, s4, s5⟩; go_simp; with_reducible rfl⟩)
           refine oneA 15 (some 27) (mkB 19 65535) (fun K hK => ?_)
           refine goes_ Tryd.func29 (by kernel_rfl) rfl #[.string ((rd_T35 l0 (ji8)).f0), .string ((rd_T35 l0 x7_1).f0)] (by rfl) rfl rfl (by (try simp only [List.map_toArray, List.map_cons, List.map_nil]); first | done | (simp only [hji8]; rfl) | rfl | (simp only [List.length_drop, List.length_take]; rfl)) ?_
           with_reducible refine (name_Compare.calls k1 ((rd_T35 l0 (ji8)).f0) ((rd_T35 l0 x7_1).f0) t143 _ ?side1 A11.out).mono ?_
           (case side1 => exact Tabs.below HT.out (bwA))
           rintro e w18 ⟨rfl, hb⟩
           refine ⟨_, rfl, ?_⟩
           have n0_ := Aside0.mk (blk_below (g := gb140) (o := .cells #[.string ((rd_T35 l0 x7_1).f0), .int .i64 ((rd_T35 l0 x7_1).f1), .bool ((rd_T35 l0 x7_1).f2)] 35 (0, 0)) blkA hb)
           have n1_ := Aside0.mk (below_step (bwA) hb)
           clear BK140
           clear HB
           have BK140 := n0_
           have HB := n1_
           clear n0_ n1_
           (try clear hb); (try clear hb2); (try clear hk); (try clear hi)
           refine hK.out _ _ ⟨(blk_cell BK140.out 0).trans rfl, (blk_cell BK140.out 1).trans rfl, (blk_cell BK140.out 2).trans rfl, crA hw142_0, crA hw142_1, crA hw142_2⟩ (fun hHeld => ?_)
           clear hK K
           refine normA ?_
           refine pureA 16 (some 28) (mkB 19 131071) ?_
           refine pureA 17 (some 29) (mkB 19 262143) ?_
           refine pureA 18 (some 30) (mkB 19 524287) ?_
           refine done_ (done_of HT_.out (by kernel_rfl)) ?_
           try go_wp2
           go_ret
           exact ⟨by first | rfl | (rw [ne_nil_b]; (first | done | rfl)) | (simp [errW_none, errW_some] <;> rfl) | (simp only [← hji8]; first | rfl | (simp [errW_none, errW_some] <;> rfl)) | (simp [*, errW_none, errW_some] <;> rfl), bwA⟩
          ·rw [if_neg c12] at H
           have c12b0 : decide (0 ≤ t143) = false := decide_eq_false c12
           clear c12
           have H' := Aside0.mk H
           clear H
           have p139 : 0 ≤ (x7_1 : Int) := odA
           have q139 : x7_1 < (l0.length : Int) := odA
           obtain ⟨ad139, e139, hx139_0, hx139_1, hx139_2⟩ := at_T35 HR0.out x7_1 p139 q139
           cases e139
           replace hx139_0 := crA hx139_0
           replace hx139_1 := crA hx139_1
           replace hx139_2 := crA hx139_2
           replace p139 := eq_true p139
           replace q139 := eq_true q139
           try go_wp2_with (first | ((with_reducible refine gate_dst (N := 4) rfl ?_); refine box_event ?hg (N := 4) ?hd (cs := #[.string (⟨#[]⟩ : ByteArray), .int .i64 0, .bool false]) (t := 35) ?hr ?_; (case hd => rfl); (case hg => rfl); (case hr => first | (go_simp; done) | (go_simp; rfl)); intro gb140 hg w19 hbox hb; have n0_ := Aside0.mk (below_step (bwA) hb); have n1_ := Aside0.mk (hbox); have n2_ := Aside0.mk ((by rw [hg]; exact (below_size (bwA)) : w.heap.size ≤ gb140)); have n3_ := Aside0.mk ((by rw [hg]; exact (below_size (bwA)) : w.heap.size ≤ gb140)); clear HB; have HB := n0_; have BK140 := n1_; have GW140 := n2_; have GE140 := n3_; clear n0_ n1_ n2_ n3_; clear hb hbox hg; have hcz20_0 : w19.cell? ⟨gb140, 0, none⟩ = some (.string (⟨#[]⟩ : ByteArray)) := (blk_cell BK140.out 0).trans rfl; have hcz20_1 : w19.cell? ⟨gb140, 1, none⟩ = some (.int .i64 0) := (blk_cell BK140.out 1).trans rfl; have hcz20_2 : w19.cell? ⟨gb140, 2, none⟩ = some (.bool false) := (blk_cell BK140.out 2).trans rfl; have hfz20_0 := blk_frozen BK140.out 0; have hfz20_1 := blk_frozen BK140.out 1; have hfz20_2 := blk_frozen BK140.out 2))
           have n0_ : Aside0 ((((w19.setCell ⟨gb140, 0, none⟩ (.string ((rd_T35 l0 x7_1).f0))).setCell ⟨gb140, 1, none⟩ (.int .i64 ((rd_T35 l0 x7_1).f1))).setCell ⟨gb140, 2, none⟩ (.bool ((rd_T35 l0 x7_1).f2))).heap[gb140]? = some (.cells #[.string ((rd_T35 l0 x7_1).f0), .int .i64 ((rd_T35 l0 x7_1).f1), .bool ((rd_T35 l0 x7_1).f2)] 35 (0, 0))) := ⟨by (with_reducible repeat (first | refine blk_drewN ?_ _ | refine blk_drew ?_ | refine blk_alloc ?_ _)); refine blk_put (cs := #[.string ((rd_T35 l0 x7_1).f0), .int .i64 ((rd_T35 l0 x7_1).f1), .bool false]) ?_ 2 _ rfl; (with_reducible repeat (first | refine blk_drewN ?_ _ | refine blk_drew ?_ | refine blk_alloc ?_ _)); refine blk_put (cs := #[.string ((rd_T35 l0 x7_1).f0), .int .i64 0, .bool false]) ?_ 1 _ rfl; (with_reducible repeat (first | refine blk_drewN ?_ _ | refine blk_drew ?_ | refine blk_alloc ?_ _)); refine blk_put (cs := #[.string (⟨#[]⟩ : ByteArray), .int .i64 0, .bool false]) ?_ 0 _ rfl; (with_reducible repeat (first | refine blk_drewN ?_ _ | refine blk_drew ?_ | refine blk_alloc ?_ _)); exact BK140.out⟩
           have n1_ : Aside0 (Below w.heap.size w (((w19.setCell ⟨gb140, 0, none⟩ (.string ((rd_T35 l0 x7_1).f0))).setCell ⟨gb140, 1, none⟩ (.int .i64 ((rd_T35 l0 x7_1).f1))).setCell ⟨gb140, 2, none⟩ (.bool ((rd_T35 l0 x7_1).f2)))) := ⟨bwA⟩
           (try clear BK140)
           (try clear HB)
           generalize (((w19.setCell ⟨gb140, 0, none⟩ (.string ((rd_T35 l0 x7_1).f0))).setCell ⟨gb140, 1, none⟩ (.int .i64 ((rd_T35 l0 x7_1).f1))).setCell ⟨gb140, 2, none⟩ (.bool ((rd_T35 l0 x7_1).f2))) = w21 at n0_ n1_ ⊢
           have BK140 := n0_
           have HB := n1_
           clear n0_ n1_
           have n0_ := Aside0.mk (blk_drew BK140.out)
           have n1_ := Aside0.mk (below_drew1 HB.out)
           clear BK140
           clear HB
           have BK140 := n0_
           have HB := n1_
           clear n0_ n1_
           have p142 : 0 ≤ ((ji8) : Int) := odA
           have q142 : (ji8) < (l0.length : Int) := odA
           obtain ⟨ad142, e142, hx142_0, hx142_1, hx142_2⟩ := at_T35 HR0.out (ji8) p142 q142
           have hw142_2 := hx142_2
           have hw142_1 := hx142_1
           have hw142_0 := hx142_0
           obtain rfl : ad139 = ad142 := (by injection e142)
           replace hx142_0 := crA hx142_0
           replace hx142_1 := crA hx142_1
           replace hx142_2 := crA hx142_2
           replace p142 := eq_true p142
           replace q142 := eq_true q142
           refine start_ (n := 19) (S := fun w' => w'.cell? ⟨gb140, 0, none⟩ = some (.string ((rd_T35 l0 x7_1).f0)) ∧ w'.cell? ⟨gb140, 1, none⟩ = some (.int .i64 ((rd_T35 l0 x7_1).f1)) ∧ w'.cell? ⟨gb140, 2, none⟩ = some (.bool ((rd_T35 l0 x7_1).f2)) ∧ w'.cell? (ad139.add (((ji8)).toNat * 3)) = some (.string ((rd_T35 l0 (ji8)).f0)) ∧ w'.cell? ⟨(ad139.add (((ji8)).toNat * 3)).block, (ad139.add (((ji8)).toNat * 3)).off + 1, none⟩ = some (.int .i64 ((rd_T35 l0 (ji8)).f1)) ∧ w'.cell? ⟨(ad139.add (((ji8)).toNat * 3)).block, (ad139.add (((ji8)).toNat * 3)).off + 2, none⟩ = some (.bool ((rd_T35 l0 (ji8)).f2))) (ds := []) (mkB 19 0) (by kernel_rfl) rfl rfl ⟨(blk_cell BK140.out 0).trans rfl, (blk_cell BK140.out 1).trans rfl, (blk_cell BK140.out 2).trans rfl, crA hw142_0, crA hw142_1, crA hw142_2⟩ (fun hHeld => ?_); refine with_tabW schema_Check.tab4 schema_Check.bits4 (fun HT_ HW_ => ?_)
           generalize w21.drew = w22 at BK140 HB hx142_0 hx142_1 hx142_2 hHeld ⊢
           refine takeA 0 (some 12) (mkB 19 1) ?_ rfl (Or.inl ⟨by rfl, by rintro w' ⟨s0, s1, s2, s3, s4, s5⟩; go_simp; with_reducible rfl⟩)
           refine oneA 1 (some 13) (mkB 19 3) (fun K hK => ?_)
           refine goes_ Tryd.func28 (by kernel_rfl) rfl #[.agg #[.string ((rd_T35 l0 x7_1).f0), .int .i64 ((rd_T35 l0 x7_1).f1), .bool ((rd_T35 l0 x7_1).f2)]] (by rfl) rfl rfl (by (try simp only [List.map_toArray, List.map_cons, List.map_nil]); first | done | rfl | (simp only [List.length_drop, List.length_take]; rfl)) ?_
           with_reducible refine (schema_field.calls k1 ((rd_T35 l0 x7_1).f0) ((rd_T35 l0 x7_1).f1) ((rd_T35 l0 x7_1).f2) true _ ?side1 A5.out).mono ?_
           (case side1 => exact Tabs.below HT.out (bwA))
           rintro e w23 ⟨rfl, hb⟩
           refine ⟨_, rfl, ?_⟩
           have n0_ := Aside0.mk (blk_below (g := gb140) (o := .cells #[.string ((rd_T35 l0 x7_1).f0), .int .i64 ((rd_T35 l0 x7_1).f1), .bool ((rd_T35 l0 x7_1).f2)] 35 (0, 0)) blkA hb)
           have n1_ := Aside0.mk (below_step (bwA) hb)
           clear BK140
           clear HB
           have BK140 := n0_
           have HB := n1_
           clear n0_ n1_
           (try clear hb); (try clear hb2); (try clear hk); (try clear hi)
           refine hK.out _ _ ⟨(blk_cell BK140.out 0).trans rfl, (blk_cell BK140.out 1).trans rfl, (blk_cell BK140.out 2).trans rfl, crA hw142_0, crA hw142_1, crA hw142_2⟩ (fun hHeld => ?_)
           clear hK K
           refine normA ?_
           refine pureA 2 (some 14) (mkB 19 7) ?_
           refine pureA 3 (some 15) (mkB 19 15) ?_
           refine pureA 4 (some 16) (mkB 19 31) ?_
           refine pureA 5 (some 17) (mkB 19 63) ?_
           refine pureA 6 (some 18) (mkB 19 127) ?_
           refine pureA 7 (some 19) (mkB 19 255) ?_
           refine pureA 8 (some 20) (mkB 19 511) ?_
           refine pureA 9 (some 21) (mkB 19 1023) ?_
           refine pureA 10 (some 22) (mkB 19 2047) ?_
           refine pureA 11 (some 23) (mkB 19 4095) ?_
           refine pureA 13 (some 25) (mkB 19 12287) ?_
           refine takeA 12 (some 24) (mkB 19 16383) ?_ rfl (Or.inl ⟨by rfl, by rintro w' ⟨s0, s1, s2, s3, s4, s5⟩; go_simp; with_reducible rfl⟩)
           refine takeA 14 (some 26) (mkB 19 32767) ?_ rfl (Or.inl ⟨by rfl, by rintro w' ⟨s0, s1, s2, s3, s4, s5⟩; go_simp; with_reducible rfl⟩)
           refine oneA 15 (some 27) (mkB 19 65535) (fun K hK => ?_)
           refine goes_ Tryd.func29 (by kernel_rfl) rfl #[.string ((rd_T35 l0 (ji8)).f0), .string ((rd_T35 l0 x7_1).f0)] (by rfl) rfl rfl (by (try simp only [List.map_toArray, List.map_cons, List.map_nil]); first | done | (simp only [hji8]; rfl) | rfl | (simp only [List.length_drop, List.length_take]; rfl)) ?_
           with_reducible refine (name_Compare.calls k1 ((rd_T35 l0 (ji8)).f0) ((rd_T35 l0 x7_1).f0) t143 _ ?side1 A11.out).mono ?_
           (case side1 => exact Tabs.below HT.out (bwA))
           rintro e w24 ⟨rfl, hb⟩
           refine ⟨_, rfl, ?_⟩
           have n0_ := Aside0.mk (blk_below (g := gb140) (o := .cells #[.string ((rd_T35 l0 x7_1).f0), .int .i64 ((rd_T35 l0 x7_1).f1), .bool ((rd_T35 l0 x7_1).f2)] 35 (0, 0)) blkA hb)
           have n1_ := Aside0.mk (below_step (bwA) hb)
           clear BK140
           clear HB
           have BK140 := n0_
           have HB := n1_
           clear n0_ n1_
           (try clear hb); (try clear hb2); (try clear hk); (try clear hi)
           refine hK.out _ _ ⟨(blk_cell BK140.out 0).trans rfl, (blk_cell BK140.out 1).trans rfl, (blk_cell BK140.out 2).trans rfl, crA hw142_0, crA hw142_1, crA hw142_2⟩ (fun hHeld => ?_)
           clear hK K
           refine normA ?_
           refine pureA 16 (some 28) (mkB 19 131071) ?_
           refine pureA 17 (some 29) (mkB 19 262143) ?_
           refine pureA 18 (some 30) (mkB 19 524287) ?_
           refine done_ (done_of HT_.out (by kernel_rfl)) ?_
           try go_wp2
           go_roundg k1
           case measure => have := HK1.out; omega
           case rel => exact ⟨(wrap64 (x7_1 + 1)), (endS), H', ⟨by have := HK1.out; omega⟩, ⟨bwA⟩⟩
         ·rw [if_neg c10] at H
          exact absurd H (by simp)
        ·rw [if_neg c9] at H
         exact absurd H (by simp)
       ·rw [if_neg c7] at H
        have c7b0 : decide (0 < x7_1) = false := decide_eq_false c7
        clear c7
        have H' := Aside0.mk H
        clear H
        have p139 : 0 ≤ (x7_1 : Int) := odA
        have q139 : x7_1 < (l0.length : Int) := odA
        obtain ⟨ad139, e139, hx139_0, hx139_1, hx139_2⟩ := at_T35 HR0.out x7_1 p139 q139
        cases e139
        replace hx139_0 := crA hx139_0
        replace hx139_1 := crA hx139_1
        replace hx139_2 := crA hx139_2
        replace p139 := eq_true p139
        replace q139 := eq_true q139
        try go_wp2_with (first | ((with_reducible refine gate_dst (N := 4) rfl ?_); refine box_event ?hg (N := 4) ?hd (cs := #[.string (⟨#[]⟩ : ByteArray), .int .i64 0, .bool false]) (t := 35) ?hr ?_; (case hd => rfl); (case hg => rfl); (case hr => first | (go_simp; done) | (go_simp; rfl)); intro gb140 hg w25 hbox hb; have n0_ := Aside0.mk (below_step (bwA) hb); have n1_ := Aside0.mk (hbox); have n2_ := Aside0.mk ((by rw [hg]; exact (below_size (bwA)) : w.heap.size ≤ gb140)); have n3_ := Aside0.mk ((by rw [hg]; exact (below_size (bwA)) : w.heap.size ≤ gb140)); clear HB; have HB := n0_; have BK140 := n1_; have GW140 := n2_; have GE140 := n3_; clear n0_ n1_ n2_ n3_; clear hb hbox hg; have hcz26_0 : w25.cell? ⟨gb140, 0, none⟩ = some (.string (⟨#[]⟩ : ByteArray)) := (blk_cell BK140.out 0).trans rfl; have hcz26_1 : w25.cell? ⟨gb140, 1, none⟩ = some (.int .i64 0) := (blk_cell BK140.out 1).trans rfl; have hcz26_2 : w25.cell? ⟨gb140, 2, none⟩ = some (.bool false) := (blk_cell BK140.out 2).trans rfl; have hfz26_0 := blk_frozen BK140.out 0; have hfz26_1 := blk_frozen BK140.out 1; have hfz26_2 := blk_frozen BK140.out 2))
        have n0_ : Aside0 ((((w25.setCell ⟨gb140, 0, none⟩ (.string ((rd_T35 l0 x7_1).f0))).setCell ⟨gb140, 1, none⟩ (.int .i64 ((rd_T35 l0 x7_1).f1))).setCell ⟨gb140, 2, none⟩ (.bool ((rd_T35 l0 x7_1).f2))).heap[gb140]? = some (.cells #[.string ((rd_T35 l0 x7_1).f0), .int .i64 ((rd_T35 l0 x7_1).f1), .bool ((rd_T35 l0 x7_1).f2)] 35 (0, 0))) := ⟨by (with_reducible repeat (first | refine blk_drewN ?_ _ | refine blk_drew ?_ | refine blk_alloc ?_ _)); refine blk_put (cs := #[.string ((rd_T35 l0 x7_1).f0), .int .i64 ((rd_T35 l0 x7_1).f1), .bool false]) ?_ 2 _ rfl; (with_reducible repeat (first | refine blk_drewN ?_ _ | refine blk_drew ?_ | refine blk_alloc ?_ _)); refine blk_put (cs := #[.string ((rd_T35 l0 x7_1).f0), .int .i64 0, .bool false]) ?_ 1 _ rfl; (with_reducible repeat (first | refine blk_drewN ?_ _ | refine blk_drew ?_ | refine blk_alloc ?_ _)); refine blk_put (cs := #[.string (⟨#[]⟩ : ByteArray), .int .i64 0, .bool false]) ?_ 0 _ rfl; (with_reducible repeat (first | refine blk_drewN ?_ _ | refine blk_drew ?_ | refine blk_alloc ?_ _)); exact BK140.out⟩
        have n1_ : Aside0 (Below w.heap.size w (((w25.setCell ⟨gb140, 0, none⟩ (.string ((rd_T35 l0 x7_1).f0))).setCell ⟨gb140, 1, none⟩ (.int .i64 ((rd_T35 l0 x7_1).f1))).setCell ⟨gb140, 2, none⟩ (.bool ((rd_T35 l0 x7_1).f2)))) := ⟨bwA⟩
        (try clear BK140)
        (try clear HB)
        generalize (((w25.setCell ⟨gb140, 0, none⟩ (.string ((rd_T35 l0 x7_1).f0))).setCell ⟨gb140, 1, none⟩ (.int .i64 ((rd_T35 l0 x7_1).f1))).setCell ⟨gb140, 2, none⟩ (.bool ((rd_T35 l0 x7_1).f2))) = w27 at n0_ n1_ ⊢
        have BK140 := n0_
        have HB := n1_
        clear n0_ n1_
        have n0_ := Aside0.mk (blk_drew BK140.out)
        have n1_ := Aside0.mk (below_drew1 HB.out)
        clear BK140
        clear HB
        have BK140 := n0_
        have HB := n1_
        clear n0_ n1_
        refine start_ (n := 19) (S := fun w' => w'.cell? ⟨gb140, 0, none⟩ = some (.string ((rd_T35 l0 x7_1).f0)) ∧ w'.cell? ⟨gb140, 1, none⟩ = some (.int .i64 ((rd_T35 l0 x7_1).f1)) ∧ w'.cell? ⟨gb140, 2, none⟩ = some (.bool ((rd_T35 l0 x7_1).f2))) (ds := []) (mkB 19 0) (by kernel_rfl) rfl rfl ⟨(blk_cell BK140.out 0).trans rfl, (blk_cell BK140.out 1).trans rfl, (blk_cell BK140.out 2).trans rfl⟩ (fun hHeld => ?_); refine with_tabW schema_Check.tab4 schema_Check.bits4 (fun HT_ HW_ => ?_)
        generalize w27.drew = w28 at BK140 HB hHeld ⊢
        refine takeA 0 (some 12) (mkB 19 1) ?_ rfl (Or.inl ⟨by rfl, by rintro w' ⟨s0, s1, s2⟩; go_simp; with_reducible rfl⟩)
        refine oneA 1 (some 13) (mkB 19 3) (fun K hK => ?_)
        refine goes_ Tryd.func28 (by kernel_rfl) rfl #[.agg #[.string ((rd_T35 l0 x7_1).f0), .int .i64 ((rd_T35 l0 x7_1).f1), .bool ((rd_T35 l0 x7_1).f2)]] (by rfl) rfl rfl (by (try simp only [List.map_toArray, List.map_cons, List.map_nil]); first | done | rfl | (simp only [List.length_drop, List.length_take]; rfl)) ?_
        with_reducible refine (schema_field.calls k1 ((rd_T35 l0 x7_1).f0) ((rd_T35 l0 x7_1).f1) ((rd_T35 l0 x7_1).f2) true _ ?side1 A5.out).mono ?_
        (case side1 => exact Tabs.below HT.out (bwA))
        rintro e w29 ⟨rfl, hb⟩
        refine ⟨_, rfl, ?_⟩
        have n0_ := Aside0.mk (blk_below (g := gb140) (o := .cells #[.string ((rd_T35 l0 x7_1).f0), .int .i64 ((rd_T35 l0 x7_1).f1), .bool ((rd_T35 l0 x7_1).f2)] 35 (0, 0)) blkA hb)
        have n1_ := Aside0.mk (below_step (bwA) hb)
        clear BK140
        clear HB
        have BK140 := n0_
        have HB := n1_
        clear n0_ n1_
        (try clear hb); (try clear hb2); (try clear hk); (try clear hi)
        refine hK.out _ _ ⟨(blk_cell BK140.out 0).trans rfl, (blk_cell BK140.out 1).trans rfl, (blk_cell BK140.out 2).trans rfl⟩ (fun hHeld => ?_)
        clear hK K
        refine normA ?_
        refine pureA 2 (some 14) (mkB 19 7) ?_
        refine pureA 3 (some 15) (mkB 19 15) ?_
        refine pureA 4 (some 16) (mkB 19 31) ?_
        refine pureA 5 (some 17) (mkB 19 63) ?_
        refine pureA 6 (some 18) (mkB 19 127) ?_
        refine pureU 7 (some 19) (mkB 19 255) ?_
        refine pureU 8 (some 20) (mkB 19 511) ?_
        refine pureU 9 (some 21) (mkB 19 1023) ?_
        refine pureU 10 (some 22) (mkB 19 2047) ?_
        refine pureU 11 (some 23) (mkB 19 4095) ?_
        refine pureU 12 (some 24) (mkB 19 8191) ?_
        refine pureU 13 (some 25) (mkB 19 16383) ?_
        refine pureU 14 (some 26) (mkB 19 32767) ?_
        refine pureU 15 (some 27) (mkB 19 65535) ?_
        refine pureU 16 (some 28) (mkB 19 131071) ?_
        refine pureA 17 (some 29) (mkB 19 262143) ?_
        refine pureA 18 (some 30) (mkB 19 524287) ?_
        refine done_ (done_of HT_.out (by kernel_rfl)) ?_
        try go_wp2
        go_roundg k1
        case measure => have := HK1.out; omega
        case rel => exact ⟨(wrap64 (x7_1 + 1)), (endS), H', ⟨by have := HK1.out; omega⟩, ⟨bwA⟩⟩
      ·replace c6 := Bool.eq_false_iff.mpr c6
       subst c6
       have H1 : (some false) = some r := by rw [if_neg (show ¬ (false = true) by decide)] at H; exact H
       clear H
       have H := H1
       clear H1
       obtain rfl := Option.some.inj H
       have p139 : 0 ≤ (x7_1 : Int) := odA
       have q139 : x7_1 < (l0.length : Int) := odA
       obtain ⟨ad139, e139, hx139_0, hx139_1, hx139_2⟩ := at_T35 HR0.out x7_1 p139 q139
       cases e139
       replace hx139_0 := crA hx139_0
       replace hx139_1 := crA hx139_1
       replace hx139_2 := crA hx139_2
       replace p139 := eq_true p139
       replace q139 := eq_true q139
       try go_wp2_with (first | ((with_reducible refine gate_dst (N := 4) rfl ?_); refine box_event ?hg (N := 4) ?hd (cs := #[.string (⟨#[]⟩ : ByteArray), .int .i64 0, .bool false]) (t := 35) ?hr ?_; (case hd => rfl); (case hg => rfl); (case hr => first | (go_simp; done) | (go_simp; rfl)); intro gb140 hg w30 hbox hb; have n0_ := Aside0.mk (below_step (bwA) hb); have n1_ := Aside0.mk (hbox); have n2_ := Aside0.mk ((by rw [hg]; exact (below_size (bwA)) : w.heap.size ≤ gb140)); have n3_ := Aside0.mk ((by rw [hg]; exact (below_size (bwA)) : w.heap.size ≤ gb140)); clear HB; have HB := n0_; have BK140 := n1_; have GW140 := n2_; have GE140 := n3_; clear n0_ n1_ n2_ n3_; clear hb hbox hg; have hcz31_0 : w30.cell? ⟨gb140, 0, none⟩ = some (.string (⟨#[]⟩ : ByteArray)) := (blk_cell BK140.out 0).trans rfl; have hcz31_1 : w30.cell? ⟨gb140, 1, none⟩ = some (.int .i64 0) := (blk_cell BK140.out 1).trans rfl; have hcz31_2 : w30.cell? ⟨gb140, 2, none⟩ = some (.bool false) := (blk_cell BK140.out 2).trans rfl; have hfz31_0 := blk_frozen BK140.out 0; have hfz31_1 := blk_frozen BK140.out 1; have hfz31_2 := blk_frozen BK140.out 2))
       have n0_ : Aside0 ((((w30.setCell ⟨gb140, 0, none⟩ (.string ((rd_T35 l0 x7_1).f0))).setCell ⟨gb140, 1, none⟩ (.int .i64 ((rd_T35 l0 x7_1).f1))).setCell ⟨gb140, 2, none⟩ (.bool ((rd_T35 l0 x7_1).f2))).heap[gb140]? = some (.cells #[.string ((rd_T35 l0 x7_1).f0), .int .i64 ((rd_T35 l0 x7_1).f1), .bool ((rd_T35 l0 x7_1).f2)] 35 (0, 0))) := ⟨by (with_reducible repeat (first | refine blk_drewN ?_ _ | refine blk_drew ?_ | refine blk_alloc ?_ _)); refine blk_put (cs := #[.string ((rd_T35 l0 x7_1).f0), .int .i64 ((rd_T35 l0 x7_1).f1), .bool false]) ?_ 2 _ rfl; (with_reducible repeat (first | refine blk_drewN ?_ _ | refine blk_drew ?_ | refine blk_alloc ?_ _)); refine blk_put (cs := #[.string ((rd_T35 l0 x7_1).f0), .int .i64 0, .bool false]) ?_ 1 _ rfl; (with_reducible repeat (first | refine blk_drewN ?_ _ | refine blk_drew ?_ | refine blk_alloc ?_ _)); refine blk_put (cs := #[.string (⟨#[]⟩ : ByteArray), .int .i64 0, .bool false]) ?_ 0 _ rfl; (with_reducible repeat (first | refine blk_drewN ?_ _ | refine blk_drew ?_ | refine blk_alloc ?_ _)); exact BK140.out⟩
       have n1_ : Aside0 (Below w.heap.size w (((w30.setCell ⟨gb140, 0, none⟩ (.string ((rd_T35 l0 x7_1).f0))).setCell ⟨gb140, 1, none⟩ (.int .i64 ((rd_T35 l0 x7_1).f1))).setCell ⟨gb140, 2, none⟩ (.bool ((rd_T35 l0 x7_1).f2)))) := ⟨bwA⟩
       (try clear BK140)
       (try clear HB)
       generalize (((w30.setCell ⟨gb140, 0, none⟩ (.string ((rd_T35 l0 x7_1).f0))).setCell ⟨gb140, 1, none⟩ (.int .i64 ((rd_T35 l0 x7_1).f1))).setCell ⟨gb140, 2, none⟩ (.bool ((rd_T35 l0 x7_1).f2))) = w32 at n0_ n1_ ⊢
       have BK140 := n0_
       have HB := n1_
       clear n0_ n1_
       have n0_ := Aside0.mk (blk_drew BK140.out)
       have n1_ := Aside0.mk (below_drew1 HB.out)
       clear BK140
       clear HB
       have BK140 := n0_
       have HB := n1_
       clear n0_ n1_
       refine start_ (n := 19) (S := fun w' => w'.cell? ⟨gb140, 0, none⟩ = some (.string ((rd_T35 l0 x7_1).f0)) ∧ w'.cell? ⟨gb140, 1, none⟩ = some (.int .i64 ((rd_T35 l0 x7_1).f1)) ∧ w'.cell? ⟨gb140, 2, none⟩ = some (.bool ((rd_T35 l0 x7_1).f2))) (ds := []) (mkB 19 0) (by kernel_rfl) rfl rfl ⟨(blk_cell BK140.out 0).trans rfl, (blk_cell BK140.out 1).trans rfl, (blk_cell BK140.out 2).trans rfl⟩ (fun hHeld => ?_); refine with_tabW schema_Check.tab4 schema_Check.bits4 (fun HT_ HW_ => ?_)
       generalize w32.drew = w33 at BK140 HB hHeld ⊢
       refine takeA 0 (some 12) (mkB 19 1) ?_ rfl (Or.inl ⟨by rfl, by rintro w' ⟨s0, s1, s2⟩; go_simp; with_reducible rfl⟩)
       refine oneA 1 (some 13) (mkB 19 3) (fun K hK => ?_)
       refine goes_ Tryd.func28 (by kernel_rfl) rfl #[.agg #[.string ((rd_T35 l0 x7_1).f0), .int .i64 ((rd_T35 l0 x7_1).f1), .bool ((rd_T35 l0 x7_1).f2)]] (by rfl) rfl rfl (by (try simp only [List.map_toArray, List.map_cons, List.map_nil]); first | done | rfl | (simp only [List.length_drop, List.length_take]; rfl)) ?_
       with_reducible refine (schema_field.calls k1 ((rd_T35 l0 x7_1).f0) ((rd_T35 l0 x7_1).f1) ((rd_T35 l0 x7_1).f2) false _ ?side1 A5.out).mono ?_
       (case side1 => exact Tabs.below HT.out (bwA))
       rintro e w34 ⟨rfl, hb⟩
       refine ⟨_, rfl, ?_⟩
       have n0_ := Aside0.mk (blk_below (g := gb140) (o := .cells #[.string ((rd_T35 l0 x7_1).f0), .int .i64 ((rd_T35 l0 x7_1).f1), .bool ((rd_T35 l0 x7_1).f2)] 35 (0, 0)) blkA hb)
       have n1_ := Aside0.mk (below_step (bwA) hb)
       clear BK140
       clear HB
       have BK140 := n0_
       have HB := n1_
       clear n0_ n1_
       (try clear hb); (try clear hb2); (try clear hk); (try clear hi)
       refine hK.out _ _ ⟨(blk_cell BK140.out 0).trans rfl, (blk_cell BK140.out 1).trans rfl, (blk_cell BK140.out 2).trans rfl⟩ (fun hHeld => ?_)
       clear hK K
       refine normA ?_
       refine pureA 2 (some 14) (mkB 19 7) ?_
       refine pureA 3 (some 15) (mkB 19 15) ?_
       refine pureU 4 (some 16) (mkB 19 31) ?_
       refine pureU 5 (some 17) (mkB 19 63) ?_
       refine pureU 6 (some 18) (mkB 19 127) ?_
       refine pureU 7 (some 19) (mkB 19 255) ?_
       refine pureU 8 (some 20) (mkB 19 511) ?_
       refine pureU 9 (some 21) (mkB 19 1023) ?_
       refine pureU 10 (some 22) (mkB 19 2047) ?_
       refine pureU 11 (some 23) (mkB 19 4095) ?_
       refine pureU 12 (some 24) (mkB 19 8191) ?_
       refine pureU 13 (some 25) (mkB 19 16383) ?_
       refine pureU 14 (some 26) (mkB 19 32767) ?_
       refine pureU 15 (some 27) (mkB 19 65535) ?_
       refine pureU 16 (some 28) (mkB 19 131071) ?_
       refine pureU 17 (some 29) (mkB 19 262143) ?_
       refine pureA 18 (some 30) (mkB 19 524287) ?_
       refine done_ (done_of HT_.out (by kernel_rfl)) ?_
       try go_wp2
       go_ret
       exact ⟨endA, bwA⟩
     ·rw [if_neg c4] at H
      exact absurd H (by simp)
    ·rw [if_neg c3] at H
     exact absurd H (by simp)
   ·rw [if_neg c2] at H
    have c2b0 : decide (x7_1 < (l0.length : Int)) = false := decide_eq_false c2
    clear c2
    obtain rfl := Option.some.inj H
    go_wp2
    go_ret
    exact ⟨endA, bwA⟩

end Go.Proofs.YtbbfggfiknbdmaaDoor.A
