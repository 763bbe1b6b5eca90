-- By drv.py, the session's own driver round the kit's print: the machine's side of the laws, function by function. Not trusted: Lean checks it.
import Derived.Test.YtkdndabpaajkaaaGreatDoorAx0
import Derived.Test.YtkdndabpaajkaaaGreatDoorAx1
import Derived.Test.YtkdndabpaajkaaaGreatDoorAx3
import Derived.Test.YtkdndabpaajkaaaGreatDoorAx7
import Derived.Test.YtkdndabpaajkaaaGreatDoorAx10
namespace Go.Proofs.YtkdndabpaajkaaaGreatDoor.A
open Go.RowKit Go.Proofs.YtkdndabpaajkaaaGreatDoorW.PrintWords Go.Proofs.YtkdndabpaajkaaaGreatDoorW.PrintLast Go.Proofs.YtkdndabpaajkaaaGreatDoorW.PrintMore
attribute [local go_sem] max2_int min2_int max_two min_two max_three min_three max_four min_four   -- for this text's walks alone
set_option linter.unusedVariables false
set_option linter.unusedSimpArgs false

attribute [local go_sem high] eqA25 eqA76
/-! ### event_Check: function 46 -/
def event_Check.f (k : Nat) (a0_0 : Int) (a0_1 : Int) (a0_2 : Int) (a0_3 : ByteArray) (l0_4 : List (S76)) : Option (Bool) := (forest_IsID.f a0_0 a0_1 a0_2).bind fun t149 => (if t149 = true then ((name_Check.f k a0_3).bind fun t150 => (if t150 = 0 then ((schema_Attrs.f k l0_4).bind fun t151 => (some t151)) else (some false))) else (some false))
theorem event_Check.mono : ∀ a0 a1 a2 a3 a4 k, LeO (event_Check.f k a0 a1 a2 a3 a4) (event_Check.f (k + 1) a0 a1 a2 a3 a4) := by
 intro a0 a1 a2 a3 a4 k
 unfold event_Check.f
 repeat' (with_reducible first | exact name_Check.mono _ _ | exact schema_Attrs.mono _ _ | exact LeO.refl _ | exact LeO.none _ | refine LeO.ite ?_ ?_ | refine LeO.bind ?_ (fun _ => ?_))
set_option maxHeartbeats 8000000 in
set_option maxRecDepth 100000 in
theorem event_Check.calls (k : Nat) (a0_0 : Int) (a0_1 : Int) (a0_2 : Int) (a0_3 : ByteArray) (A0_4 : Option Addr) (c0_4 : Nat) (l0_4 : List (S76)) (r : Bool) (w : World) (hr0_4 : Kd.C k76 w A0_4 l0_4.length l0_4) (hc0_4 : l0_4.length ≤ c0_4) (hT : Tabs w) (h : event_Check.f k a0_0 a0_1 a0_2 a0_3 l0_4 = some r) :
  Calls Tryz.prog 46 #[.agg #[.int .i64 a0_0, .int .i64 a0_1, .int .i64 a0_2, .string a0_3, .slice A0_4 l0_4.length c0_4]] w fun e w' => e = .returned (.bool r) ∧ Below w.heap.size w w' := by
 have hu66 := Tryz.underlying66
 have hu25 := Tryz.underlying25
 have HR0_4 := Aside0.mk hr0_4
 have HC0_4 := Aside0.mk hc0_4
 clear hr0_4 hc0_4
 have HB := Aside0.mk (Below.refl w.heap.size w)
 unfold event_Check.f at h
 have H := h
 clear h
 have HT := Aside0.mk hT
 clear hT
 replace H := Option.bind_eq_some_iff.mp H
 obtain ⟨t149, A20, H⟩ := H
 replace H : (if t149 = true then ((name_Check.f k a0_3).bind fun t150 => (if t150 = 0 then ((schema_Attrs.f k l0_4).bind fun t151 => (some t151)) else (some false))) else (some false)) = some r := H
 have A2 := Aside0.mk A20
 clear A20
 revert H; refine itR ?L5p ?L5n
 case' L5p =>
  intro c3 H
  subst c3
  replace H := bnA H
  obtain ⟨t150, A4, H⟩ := H
  revert H; refine itR ?L6p ?L6n
  case' L6p =>
   intro c5 H
   obtain ⟨c5b0, c5b1⟩ := fcE c5
   clear c5
   replace H := bnA H
   obtain ⟨t151, A6, H⟩ := H
   obtain rfl := Option.some.inj H
   have M1 := True.intro
   have M2 := True.intro
  case' L6n =>
   intro c5 H
   obtain ⟨c5b0, c5b1⟩ := fcN c5
   obtain rfl := Option.some.inj H
   have M1 := True.intro
   have M3 := True.intro
 case' L5n =>
  intro c3 H
  replace c3 := Bool.eq_false_iff.mpr c3
  subst c3
  obtain rfl := Option.some.inj H
  have M4 := True.intro
 all_goals
  case _ =>
   go_enter Tryz.func46, Tryz.ntmps46
   go_wp2_with (first | ((with_reducible refine gate_dst (N := 1) rfl ?_); refine boxA 1 #[.int .i64 a0_0, .int .i64 a0_1, .int .i64 a0_2, .string a0_3, .slice A0_4 l0_4.length c0_4] 66 ?_; intro gb148 hg w101 hbox hb; have BK148 := Aside0.mk (hbox); have GW148 := Aside0.mk (hgW hg : w.heap.size ≤ gb148); have GE148 := Aside0.mk (hgW hg : w.heap.size ≤ gb148); replace HB := Aside0.mk (below_step (bwA) hb); clear hb hbox hg; have hcz102_0 := celA BK148.out 0 (.int .i64 a0_0); have hcz102_1 := celA BK148.out 1 (.int .i64 a0_1); have hcz102_2 := celA BK148.out 2 (.int .i64 a0_2); have hcz102_3 := celA BK148.out 3 (.string a0_3); have hcz102_4 := celA BK148.out 4 (.slice A0_4 l0_4.length c0_4); have hfz102_0 := blk_frozen BK148.out 0; have hfz102_1 := blk_frozen BK148.out 1; have hfz102_2 := blk_frozen BK148.out 2; have hfz102_3 := blk_frozen BK148.out 3; have hfz102_4 := blk_frozen BK148.out 4) | ((with_reducible refine gate_callee (f := 73) rfl ?_); refine goesA (some 5) Tryz.func73 #[.agg #[.int .i64 a0_0, .int .i64 a0_1, .int .i64 a0_2]] ?_; (with_reducible refine (forest_IsID.calls _ _ _ _ _ A2.out).mono ?_); rintro e w103 ⟨rfl, hb⟩; refine ⟨_, rfl, ?_⟩; replace BK148 := Aside0.mk (bkB BK148 hb); replace HB := Aside0.mk (below_step (bwA) hb); (try clear hb); apply stopA; (case other => exact True.intro)))
   case _ =>
    first
     | clear M1
       have hcz104_0 := celA BK148.out 0 (.int .i64 a0_0)
       have hcz104_1 := celA BK148.out 1 (.int .i64 a0_1)
       have hcz104_2 := celA BK148.out 2 (.int .i64 a0_2)
       have hcz104_3 := celA BK148.out 3 (.string a0_3)
       have hcz104_4 := celA BK148.out 4 (.slice A0_4 l0_4.length c0_4)
       have hfz104_0 := blk_frozen BK148.out 0
       have hfz104_1 := blk_frozen BK148.out 1
       have hfz104_2 := blk_frozen BK148.out 2
       have hfz104_3 := blk_frozen BK148.out 3
       have hfz104_4 := blk_frozen BK148.out 4
       go_wp2_with (first | (go_at_call 68; (with_reducible refine (name_Check.calls _ _ _ _ ?side1 A4.out).mono ?_); (case side1 => exact Tabs.below HT.out (bwA)); rintro e w105 ⟨rfl, hb⟩; replace BK148 := Aside0.mk (bkB BK148 hb); replace HB := Aside0.mk (below_step (bwA) hb); (try clear hb); apply stopA; (case other => exact True.intro)))
       case _ =>
        first
         | clear M2
           have hcz106_0 := celA BK148.out 0 (.int .i64 a0_0)
           have hcz106_1 := celA BK148.out 1 (.int .i64 a0_1)
           have hcz106_2 := celA BK148.out 2 (.int .i64 a0_2)
           have hcz106_3 := celA BK148.out 3 (.string a0_3)
           have hcz106_4 := celA BK148.out 4 (.slice A0_4 l0_4.length c0_4)
           have hfz106_0 := blk_frozen BK148.out 0
           have hfz106_1 := blk_frozen BK148.out 1
           have hfz106_2 := blk_frozen BK148.out 2
           have hfz106_3 := blk_frozen BK148.out 3
           have hfz106_4 := blk_frozen BK148.out 4
           try go_wp2_with (first | (go_at_call 111; (with_reducible refine (schema_Attrs.calls _ _ _ _ _ _ ?side1 ?side2 ?side3 A6.out).mono ?_); (case side1 => repeat (first | exact (Kd.C_below HR0_4.out HB.out) | (with_reducible refine Kd.C_alloc ?_ _) | (with_reducible refine Kd.C_drewN ?_ _) | (with_reducible refine Kd.C_drew ?_))); (case side2 => exact HC0_4.out); (case side3 => exact Tabs.below HT.out (bwA)); rintro e w107 ⟨rfl, hb⟩; replace BK148 := Aside0.mk (bkB BK148 hb); replace HB := Aside0.mk (below_step (bwA) hb); (try clear hb)))
           go_ret
           exact ⟨endA, bwA⟩
         | clear M3
           (try go_wp2_with (fail))
           go_ret
           exact ⟨endA, bwA⟩
     | clear M4
       (try go_wp2_with (fail))
       go_ret
       exact ⟨endA, bwA⟩
/-! ### api_Attr_113: function 113 -/
def api_Attr_113.l0 : Nat → List (S76) → List (S76) → Int → Int → Option (Bool)
 | 0, _, _, _, _ => none
 | k + 1, x0, x1, x12, x13 => if x13 < x12 then (if 0 ≤ x13 then (if x13 < (x0.length : Int) then (if x13 < (x1.length : Int) then (if (!((((rd_T76 x0 x13).f0).toList) == (((rd_T76 x1 x13).f0).toList)) || ((!(((rd_T76 x0 x13).f1.f0) == ((rd_T76 x1 x13).f1.f0)) || (!(((rd_T76 x0 x13).f1.f1) == ((rd_T76 x1 x13).f1.f1)) || (!((((rd_T76 x0 x13).f1.f2).toList) == (((rd_T76 x1 x13).f1.f2).toList))))))) = true then (some false) else (api_Attr_113.l0 k x0 x1 x12 (wrap64 (x13 + 1)))) else (none)) else (none)) else (none)) else (some true)
def api_Attr_113.f (k : Nat) (l0 : List (S76)) (l1 : List (S76)) : Option (Bool) := if (l0.length : Int) = (l1.length : Int) then (api_Attr_113.l0 k l0 l1 (l0.length : Int) 0) else (some false)
theorem api_Attr_113.mono_l : ∀ k, (∀ y0 y1 y2 y3, LeO (api_Attr_113.l0 k y0 y1 y2 y3) (api_Attr_113.l0 (k + 1) y0 y1 y2 y3))
 | 0 => fun _ _ _ _ r h => by simp [api_Attr_113.l0] at h
 | k + 1 => by
  have ih0 := api_Attr_113.mono_l k
  ·intro y0 y1 y2 y3
   unfold api_Attr_113.l0
   repeat' (with_reducible first | exact ih0 _ _ _ _ | exact LeO.refl _ | exact LeO.none _ | refine LeO.ite ?_ ?_ | refine LeO.bind ?_ (fun _ => ?_))
theorem api_Attr_113.mono : ∀ a0 a1 k, LeO (api_Attr_113.f k a0 a1) (api_Attr_113.f (k + 1) a0 a1) := by
 intro a0 a1 k
 have ih0 := api_Attr_113.mono_l k
 unfold api_Attr_113.f
 repeat' (with_reducible first | exact ih0 _ _ _ _ | exact LeO.refl _ | exact LeO.none _ | refine LeO.ite ?_ ?_ | refine LeO.bind ?_ (fun _ => ?_))
set_option maxHeartbeats 8000000 in
set_option maxRecDepth 100000 in
theorem api_Attr_113.calls (k : Nat) (A0 : Option Addr) (c0 : Nat) (l0 : List (S76)) (A1 : Option Addr) (c1 : Nat) (l1 : List (S76)) (r : Bool) (w : World) (hr0 : Kd.C k76 w A0 l0.length l0) (hc0 : l0.length ≤ c0) (hr1 : Kd.C k76 w A1 l1.length l1) (hc1 : l1.length ≤ c1) (h : api_Attr_113.f k l0 l1 = some r) :
  Calls Tryz.prog 113 #[.slice A0 l0.length c0, .slice A1 l1.length c1] w fun e w' => e = .returned (.bool r) ∧ Drawn0 w w' := by
 have hu76 := Tryz.underlying76
 have HR0 := Aside0.mk hr0
 have HC0 := Aside0.mk hc0
 clear hr0 hc0
 have HR1 := Aside0.mk hr1
 have HC1 := Aside0.mk hc1
 clear hr1 hc1
 unfold api_Attr_113.f at h
 have H := h
 clear h
 revert H; refine itR ?L7p ?L7n
 case' L7p =>
  intro c3 H
  obtain ⟨c3b0, c3b1⟩ := fcE c3
  have c3b2 : (l0.length == l1.length) = true := by first | simpa using c3 | (simp at c3 ⊢; omega)
  clear c3
  have H' := Aside0.mk H
  clear H
  have M5 := True.intro
 case' L7n =>
  intro c3 H
  obtain ⟨c3b0, c3b1⟩ := fcN c3
  have c3b2 : (l0.length == l1.length) = false := by first | simpa using c3 | (simp at c3 ⊢; omega)
  obtain rfl := Option.some.inj H
  have M6 := True.intro
 all_goals
  case _ =>
   go_enter Tryz.func113, Tryz.ntmps113
   go_wp2
   repeat (go_quiet (fail); try go_wp2)
   first
    | clear M5
      go_loopg [13] k (fun kq v13 w' => ∃ (x13_1 : Int), v13 = .int .i64 x13_1 ∧ Aside0 (api_Attr_113.l0 kq l0 l1 (l0.length : Int) x13_1 = some r) ∧ Aside0 (kq ≤ k) ∧ Drawn0 w w')
      case atStart => exact ⟨(0), (endS), H', ⟨Nat.le_refl _⟩, drA⟩
      case round =>
       clear H'
       try clear c1
       try clear p2
       try clear c3
       try clear c3b0
       try clear c3b1
       try clear c3b2
       try clear c11
       obtain ⟨x13_1, rfl, HA, HK1, ⟨m1, rfl⟩⟩ := hrel
       cases gk with
       | zero => exact absurd HA.out (by simp [api_Attr_113.l0])
       | succ k1 =>
        have H := HA.out
        clear HA
        simp only [api_Attr_113.l0] at H
        revert H; refine itR ?L3p ?L3n
        case' L3p =>
         intro c101 H
         have c101b0 := decide_eq_true c101
         clear c101
         replace H := itN H
         obtain ⟨c102, H⟩ := H
         have c102b0 := decide_eq_true c102
         clear c102
         replace H := itN H
         obtain ⟨c103, H⟩ := H
         have c103b0 := decide_eq_true c103
         clear c103
         replace H := itN H
         obtain ⟨c104, H⟩ := H
         have c104b0 := decide_eq_true c104
         clear c104
         revert H; refine itR ?L4p ?L4n
         case' L4p =>
          intro c105 H
          have c105b0 : (!((((rd_T76 l0 x13_1).f0).toList) == (((rd_T76 l1 x13_1).f0).toList)) || ((!(((rd_T76 l0 x13_1).f1.f0) == ((rd_T76 l1 x13_1).f1.f0)) || (!(((rd_T76 l0 x13_1).f1.f1) == ((rd_T76 l1 x13_1).f1.f1)) || (!((((rd_T76 l0 x13_1).f1.f2).toList) == (((rd_T76 l1 x13_1).f1.f2).toList))))))) = true := c105
          clear c105
          obtain rfl := Option.some.inj H
          have M1 := True.intro
         case' L4n =>
          intro c105 H
          have c105b0 : (!((((rd_T76 l0 x13_1).f0).toList) == (((rd_T76 l1 x13_1).f0).toList)) || ((!(((rd_T76 l0 x13_1).f1.f0) == ((rd_T76 l1 x13_1).f1.f0)) || (!(((rd_T76 l0 x13_1).f1.f1) == ((rd_T76 l1 x13_1).f1.f1)) || (!((((rd_T76 l0 x13_1).f1.f2).toList) == (((rd_T76 l1 x13_1).f1.f2).toList))))))) = false := by simpa using c105
          clear c105
          have H' := Aside0.mk H
          clear H
          have M2 := True.intro
        case' L3n =>
         intro c101 H
         have c101b0 := decide_eq_false c101
         clear c101
         obtain rfl := Option.some.inj H
         go_wp2
         repeat (go_quiet (fail); try go_wp2)
         go_ret
         exact ⟨endS, drA⟩
        all_goals
         case _ =>
          have p152 : 0 ≤ (x13_1 : Int) := odA
          have q152 : x13_1 < (l0.length : Int) := odA
          obtain ⟨ad152, e152, hx152_0, hx152_1, hx152_2, hx152_3⟩ := at_T76 HR0.out x13_1 p152 q152
          cases e152
          replace p152 := eq_true p152
          replace q152 := eq_true q152
          have p153 : 0 ≤ (x13_1 : Int) := odA
          have q153 : x13_1 < (l1.length : Int) := odA
          obtain ⟨ad153, e153, hx153_0, hx153_1, hx153_2, hx153_3⟩ := at_T76 HR1.out x13_1 p153 q153
          cases e153
          replace p153 := eq_true p153
          replace q153 := eq_true q153
          go_wp2
          repeat (go_quiet (fail); try go_wp2)
          first
           | clear M1
             go_ret
             exact ⟨endS, drA⟩
           | clear M2
             go_roundg k1
             case measure => have := HK1.out; omega
             case rel => exact ⟨(wrap64 (x13_1 + 1)), (endS), H', ⟨by have := HK1.out; omega⟩, drA⟩
    | clear M6
      go_ret
      exact ⟨endS, drA⟩
/-! ### event_Same: function 48 -/
def event_Same.f (k : Nat) (a0_0 : Int) (a0_1 : Int) (a0_2 : Int) (a0_3 : ByteArray) (l0_4 : List (S76)) (a1_0 : Int) (a1_1 : Int) (a1_2 : Int) (a1_3 : ByteArray) (l1_4 : List (S76)) : Option (Bool) := if (a0_0 == a1_0 && (a0_1 == a1_1 && (a0_2 == a1_2))) = true then (if a0_3.toList = a1_3.toList then ((api_Attr_113.f k l0_4 l1_4).bind fun t156 => (some t156)) else (some false)) else (some false)
theorem event_Same.mono : ∀ a0 a1 a2 a3 a4 a5 a6 a7 a8 a9 k, LeO (event_Same.f k a0 a1 a2 a3 a4 a5 a6 a7 a8 a9) (event_Same.f (k + 1) a0 a1 a2 a3 a4 a5 a6 a7 a8 a9) := by
 intro a0 a1 a2 a3 a4 a5 a6 a7 a8 a9 k
 unfold event_Same.f
 repeat' (with_reducible first | exact api_Attr_113.mono _ _ _ | exact LeO.refl _ | exact LeO.none _ | refine LeO.ite ?_ ?_ | refine LeO.bind ?_ (fun _ => ?_))
set_option maxHeartbeats 8000000 in
set_option maxRecDepth 100000 in
theorem event_Same.calls (k : Nat) (a0_0 : Int) (a0_1 : Int) (a0_2 : Int) (a0_3 : ByteArray) (A0_4 : Option Addr) (c0_4 : Nat) (l0_4 : List (S76)) (a1_0 : Int) (a1_1 : Int) (a1_2 : Int) (a1_3 : ByteArray) (A1_4 : Option Addr) (c1_4 : Nat) (l1_4 : List (S76)) (r : Bool) (w : World) (hr0_4 : Kd.C k76 w A0_4 l0_4.length l0_4) (hc0_4 : l0_4.length ≤ c0_4) (hr1_4 : Kd.C k76 w A1_4 l1_4.length l1_4) (hc1_4 : l1_4.length ≤ c1_4) (h : event_Same.f k a0_0 a0_1 a0_2 a0_3 l0_4 a1_0 a1_1 a1_2 a1_3 l1_4 = some r) :
  Calls Tryz.prog 48 #[.agg #[.int .i64 a0_0, .int .i64 a0_1, .int .i64 a0_2, .string a0_3, .slice A0_4 l0_4.length c0_4], .agg #[.int .i64 a1_0, .int .i64 a1_1, .int .i64 a1_2, .string a1_3, .slice A1_4 l1_4.length c1_4]] w fun e w' => e = .returned (.bool r) ∧ Below w.heap.size w w' := by
 have hu66 := Tryz.underlying66
 have hu25 := Tryz.underlying25
 have HR0_4 := Aside0.mk hr0_4
 have HC0_4 := Aside0.mk hc0_4
 clear hr0_4 hc0_4
 have HR1_4 := Aside0.mk hr1_4
 have HC1_4 := Aside0.mk hc1_4
 clear hr1_4 hc1_4
 have HB := Aside0.mk (Below.refl w.heap.size w)
 unfold event_Same.f at h
 have H := h
 clear h
 revert H; refine itR ?L3p ?L3n
 case' L3p =>
  intro c3 H
  have c3b0 : (a0_0 == a1_0 && (a0_1 == a1_1 && (a0_2 == a1_2))) = true := c3
  (try (have c3b1 : decide (a0_0 = a1_0 && (a0_1 == a1_1 && (a0_2 == a1_2))) = true := by simpa using c3))
  (try (have c3b2 : (a0_0 == a1_0 && (a0_1 == a1_1 && (a0_2 == a1_2))) = true := by simpa using c3))
  clear c3
  revert H; refine itR ?L4p ?L4n
  case' L4p =>
   intro c4 H
   obtain ⟨c4b0, c4b1⟩ := fcE c4
   clear c4
   replace H := bnA H
   obtain ⟨t156, A5, H⟩ := H
   obtain rfl := Option.some.inj H
   have M1 := True.intro
  case' L4n =>
   intro c4 H
   obtain ⟨c4b0, c4b1⟩ := fcN c4
   obtain rfl := Option.some.inj H
   have M2 := True.intro
 case' L3n =>
  intro c3 H
  have c3b0 : (a0_0 == a1_0 && (a0_1 == a1_1 && (a0_2 == a1_2))) = false := by simpa using c3
  (try (have c3b1 : decide (a0_0 = a1_0 && (a0_1 == a1_1 && (a0_2 == a1_2))) = false := by simpa using c3))
  (try (have c3b2 : (a0_0 == a1_0 && (a0_1 == a1_1 && (a0_2 == a1_2))) = false := by simpa using c3))
  (try (have c3b3 : ¬ (a0_0 = a1_0 && (a0_1 == a1_1 && (a0_2 == a1_2))) := by simpa using c3))
  clear c3
  obtain rfl := Option.some.inj H
  have M2 := True.intro
 all_goals
  case _ =>
   go_enter Tryz.func48, Tryz.ntmps48
   go_wp2_with (first | ((with_reducible refine gate_dst (N := 2) rfl ?_); refine boxA 2 #[.int .i64 a0_0, .int .i64 a0_1, .int .i64 a0_2, .string a0_3, .slice A0_4 l0_4.length c0_4] 66 ?_; intro gb154 hg w101 hbox hb; have BK154 := Aside0.mk (hbox); have GW154 := Aside0.mk (hgW hg : w.heap.size ≤ gb154); have GE154 := Aside0.mk (hgW hg : w.heap.size ≤ gb154); replace HB := Aside0.mk (below_step (bwA) hb); clear hb hbox hg) | ((with_reducible refine gate_dst (N := 3) rfl ?_); refine boxA 3 #[.int .i64 a1_0, .int .i64 a1_1, .int .i64 a1_2, .string a1_3, .slice A1_4 l1_4.length c1_4] 66 ?_; intro gb155 hg w102 hbox hb; have BK155 := Aside0.mk (hbox); have GW155 := Aside0.mk (hgW hg : w.heap.size ≤ gb155); have GE155 := Aside0.mk (hgW hg : w.heap.size ≤ gb155); have NB154_155 := Aside0.mk (hgL hg BK154 : gb154 ≠ gb155); have NB155_154 := Aside0.mk (hgG hg BK154 : gb155 ≠ gb154); replace BK154 := Aside0.mk (bkB BK154 hb); replace HB := Aside0.mk (below_step (bwA) hb); clear hb hbox hg; have hnb103 := NB154_155.out; have hnc103 := NB155_154.out; have hcz104_0 := celA BK154.out 0 (.int .i64 a0_0); have hcz104_1 := celA BK154.out 1 (.int .i64 a0_1); have hcz104_2 := celA BK154.out 2 (.int .i64 a0_2); have hcz104_3 := celA BK154.out 3 (.string a0_3); have hcz104_4 := celA BK154.out 4 (.slice A0_4 l0_4.length c0_4); have hfz104_0 := blk_frozen BK154.out 0; have hfz104_1 := blk_frozen BK154.out 1; have hfz104_2 := blk_frozen BK154.out 2; have hfz104_3 := blk_frozen BK154.out 3; have hfz104_4 := blk_frozen BK154.out 4; have hcz105_0 := celA BK155.out 0 (.int .i64 a1_0); have hcz105_1 := celA BK155.out 1 (.int .i64 a1_1); have hcz105_2 := celA BK155.out 2 (.int .i64 a1_2); have hcz105_3 := celA BK155.out 3 (.string a1_3); have hcz105_4 := celA BK155.out 4 (.slice A1_4 l1_4.length c1_4); have hfz105_0 := blk_frozen BK155.out 0; have hfz105_1 := blk_frozen BK155.out 1; have hfz105_2 := blk_frozen BK155.out 2; have hfz105_3 := blk_frozen BK155.out 3; have hfz105_4 := blk_frozen BK155.out 4; apply stopA; (case other => exact True.intro)))
   case _ =>
    first
     | clear M1
       try go_wp2_with (first | (go_at_call 113; (with_reducible refine (api_Attr_113.calls _ _ _ _ _ _ _ _ _ ?side1 ?side2 ?side3 ?side4 A5.out).mono ?_); (case side1 => repeat (first | exact (Kd.C_below HR0_4.out HB.out) | (with_reducible refine Kd.C_alloc ?_ _) | (with_reducible refine Kd.C_drewN ?_ _) | (with_reducible refine Kd.C_drew ?_))); (case side2 => exact HC0_4.out); (case side3 => repeat (first | exact (Kd.C_below HR1_4.out HB.out) | (with_reducible refine Kd.C_alloc ?_ _) | (with_reducible refine Kd.C_drewN ?_ _) | (with_reducible refine Kd.C_drew ?_))); (case side4 => exact HC1_4.out); rintro e w' ⟨rfl, ⟨nd, rfl⟩⟩))
       go_ret
       exact ⟨endA, bwA⟩
     | clear M2
       (try go_wp2_with (fail))
       go_ret
       exact ⟨endA, bwA⟩
/-! ### strconv_Itoa: function 121, by hand -/
def strconv_Itoa.f (a0 : Int) : Option ByteArray := if -9223372036854775808 ≤ a0 ∧ a0 ≤ 9223372036854775807 then some ⟨(Lib.itoa a0).toArray⟩ else none
theorem strconv_Itoa.calls (a0 : Int) (r : ByteArray) (w : World) (hT : Tabs w) (h : strconv_Itoa.f a0 = some r) :
  Calls Tryz.prog 121 #[.int .i64 a0] w fun e w' => e = .returned (.string r) ∧ Below w.heap.size w w' := by
 unfold strconv_Itoa.f at h
 split at h
 ·rename_i hs
  obtain rfl := Option.some.inj h
  refine (Tryz.strconv_Itoa a0 hs.1 hs.2 w hT.pow).mono ?_
  rintro e w' ⟨he, k, os, rfl⟩
  exact ⟨he, Lib.below_grow _ w (Nat.le_refl _) k os⟩
 ·cases h

/-! ### event_ShowID: function 56 -/
def event_ShowID.f (a0_0 : Int) (a0_1 : Int) (a0_2 : Int) : Option (ByteArray) := (forest_IsID.f a0_0 a0_1 a0_2).bind fun t158 => (if t158 = true then ((strconv_Itoa.f a0_0).bind fun t159 => (if t159.size + 1 ≤ 9223372036854775807 then ((strconv_Itoa.f a0_1).bind fun t160 => (if (t159 ++ (⟨#[46]⟩ : ByteArray)).size + t160.size ≤ 9223372036854775807 then (if ((t159 ++ (⟨#[46]⟩ : ByteArray)) ++ t160).size + 1 ≤ 9223372036854775807 then ((strconv_Itoa.f a0_2).bind fun t161 => (if (((t159 ++ (⟨#[46]⟩ : ByteArray)) ++ t160) ++ (⟨#[46]⟩ : ByteArray)).size + t161.size ≤ 9223372036854775807 then (some ((((t159 ++ (⟨#[46]⟩ : ByteArray)) ++ t160) ++ (⟨#[46]⟩ : ByteArray)) ++ t161)) else (none))) else (none)) else (none))) else (none))) else (some (⟨#[]⟩ : ByteArray)))
def event_ShowID.T3 : Bool × List (List Nat × List Nat) := (true, [([], []), ([0], [0]), ([1], [1]), ([2], [2]), ([], []), ([4], [4]), ([5, 2], [5]), ([3, 6], [3, 6]), ([7], [7]), ([], []), ([9], [9]), ([10, 6], [10]), ([8, 11], [8, 11]), ([12, 11, 0, 1, 2, 3, 4, 5, 6, 7, 8, 9, 10, 11, 12], [12])])
def event_ShowID.B3 : List Nat := [0, 1, 3, 7, 0, 16, 55, 127, 255, 0, 512, 1655, 4095, 8191]
theorem event_ShowID.tab3 : rtab .any (opsOf Tryz.f56 3) = event_ShowID.T3 := by kernel_rfl
theorem event_ShowID.bits3 : waitsOk event_ShowID.T3.2 event_ShowID.B3 = true := by kernel_rfl
set_option maxHeartbeats 8000000 in
set_option maxRecDepth 100000 in
theorem event_ShowID.calls (a0_0 : Int) (a0_1 : Int) (a0_2 : Int) (r : ByteArray) (w : World) (hT : Tabs w) (h : event_ShowID.f a0_0 a0_1 a0_2 = some r) :
  Calls Tryz.prog 56 #[.agg #[.int .i64 a0_0, .int .i64 a0_1, .int .i64 a0_2]] w fun e w' => e = .returned (.string r) ∧ Below w.heap.size w w' := by
 have hu25 := Tryz.underlying25
 have HB := Aside0.mk (Below.refl w.heap.size w)
 unfold event_ShowID.f at h
 have H := h
 clear h
 have HT := Aside0.mk hT
 clear hT
 replace H := Option.bind_eq_some_iff.mp H
 obtain ⟨t158, A20, H⟩ := H
 replace H : (if t158 = true then ((strconv_Itoa.f a0_0).bind fun t159 => (if t159.size + 1 ≤ 9223372036854775807 then ((strconv_Itoa.f a0_1).bind fun t160 => (if (t159 ++ (⟨#[46]⟩ : ByteArray)).size + t160.size ≤ 9223372036854775807 then (if ((t159 ++ (⟨#[46]⟩ : ByteArray)) ++ t160).size + 1 ≤ 9223372036854775807 then ((strconv_Itoa.f a0_2).bind fun t161 => (if (((t159 ++ (⟨#[46]⟩ : ByteArray)) ++ t160) ++ (⟨#[46]⟩ : ByteArray)).size + t161.size ≤ 9223372036854775807 then (some ((((t159 ++ (⟨#[46]⟩ : ByteArray)) ++ t160) ++ (⟨#[46]⟩ : ByteArray)) ++ t161)) else (none))) else (none)) else (none))) else (none))) else (some (⟨#[]⟩ : ByteArray))) = some r := H
 have A2 := Aside0.mk A20
 clear A20
 revert H; refine itR ?L3p ?L3n
 case' L3p =>
  intro c3 H
  subst c3
  replace H := bnA H
  obtain ⟨t159, A4, H⟩ := H
  replace H := itN H
  obtain ⟨c5, H⟩ := H
  have c5b0 := eq_true c5
  have c5b1 := decide_eq_true c5
  try have c5b2 : (9223372036854775807 < t159.size + 1) = False := eq_false (Nat.not_lt.2 c5)
  replace H := bnA H
  obtain ⟨t160, A6, H⟩ := H
  replace H := itN H
  obtain ⟨c7, H⟩ := H
  have c7b0 := eq_true c7
  have c7b1 := decide_eq_true c7
  try have c7b2 : (9223372036854775807 < (t159 ++ (⟨#[46]⟩ : ByteArray)).size + t160.size) = False := eq_false (Nat.not_lt.2 c7)
  try have c7b3 : (9223372036854775807 < t159.size + 1 + t160.size) = False := eq_false (by have zz_ := c7; simp only [ByteArray.size_append] at zz_; have zy0_ : (⟨#[46]⟩ : ByteArray).size = 1 := rfl; omega)
  replace H := itN H
  obtain ⟨c8, H⟩ := H
  have c8b0 := eq_true c8
  have c8b1 := decide_eq_true c8
  try have c8b2 : (9223372036854775807 < ((t159 ++ (⟨#[46]⟩ : ByteArray)) ++ t160).size + 1) = False := eq_false (Nat.not_lt.2 c8)
  try have c8b3 : (9223372036854775807 < t159.size + 1 + t160.size + 1) = False := eq_false (by have zz_ := c8; simp only [ByteArray.size_append] at zz_; have zy0_ : (⟨#[46]⟩ : ByteArray).size = 1 := rfl; omega)
  replace H := bnA H
  obtain ⟨t161, A9, H⟩ := H
  replace H := itN H
  obtain ⟨c10, H⟩ := H
  have c10b0 := eq_true c10
  have c10b1 := decide_eq_true c10
  try have c10b2 : (9223372036854775807 < (((t159 ++ (⟨#[46]⟩ : ByteArray)) ++ t160) ++ (⟨#[46]⟩ : ByteArray)).size + t161.size) = False := eq_false (Nat.not_lt.2 c10)
  try have c10b3 : (9223372036854775807 < t159.size + 1 + t160.size + 1 + t161.size) = False := eq_false (by have zz_ := c10; simp only [ByteArray.size_append] at zz_; have zy0_ : (⟨#[46]⟩ : ByteArray).size = 1 := rfl; have zy1_ : (⟨#[46]⟩ : ByteArray).size = 1 := rfl; omega)
  obtain rfl := Option.some.inj H
  have M1 := True.intro
 case' L3n =>
  intro c3 H
  replace c3 := Bool.eq_false_iff.mpr c3
  subst c3
  obtain rfl := Option.some.inj H
  have M2 := True.intro
 all_goals
  case _ =>
   go_enter Tryz.func56, Tryz.ntmps56
   try go_wp2_with (first | ((with_reducible refine gate_dst (N := 1) rfl ?_); refine boxA 1 #[.int .i64 a0_0, .int .i64 a0_1, .int .i64 a0_2] 25 ?_; intro gb157 hg w101 hbox hb; have BK157 := Aside0.mk (hbox); have GW157 := Aside0.mk (hgW hg : w.heap.size ≤ gb157); have GE157 := Aside0.mk (hgW hg : w.heap.size ≤ gb157); replace HB := Aside0.mk (below_step (bwA) hb); clear hb hbox hg; have hcz102_0 := celA BK157.out 0 (.int .i64 a0_0); have hcz102_1 := celA BK157.out 1 (.int .i64 a0_1); have hcz102_2 := celA BK157.out 2 (.int .i64 a0_2); have hfz102_0 := blk_frozen BK157.out 0; have hfz102_1 := blk_frozen BK157.out 1; have hfz102_2 := blk_frozen BK157.out 2) | ((with_reducible refine gate_callee (f := 73) rfl ?_); refine goesA (some 4) Tryz.func73 #[.agg #[.int .i64 a0_0, .int .i64 a0_1, .int .i64 a0_2]] ?_; (with_reducible refine (forest_IsID.calls _ _ _ _ _ A2.out).mono ?_); rintro e w103 ⟨rfl, hb⟩; refine ⟨_, rfl, ?_⟩; replace BK157 := Aside0.mk (bkB BK157 hb); replace HB := Aside0.mk (below_step (bwA) hb); (try clear hb)))
   first
    | clear M1
      replace BK157 := Aside0.mk (blk_drew BK157.out)
      replace HB := Aside0.mk (below_drew1 HB.out)
      refine start_ (n := 14) (S := fun w' => w'.cell? ⟨gb157, 0, none⟩ = some (.int .i64 a0_0) ∧ w'.cell? ⟨gb157, 1, none⟩ = some (.int .i64 a0_1) ∧ w'.cell? ⟨gb157, 2, none⟩ = some (.int .i64 a0_2)) (ds := []) (mkB 14 0) (by kernel_rfl) rfl rfl ⟨(blk_cell BK157.out 0).trans rfl, (blk_cell BK157.out 1).trans rfl, (blk_cell BK157.out 2).trans rfl⟩ (fun hHeld => ?_); refine with_tabW event_ShowID.tab3 event_ShowID.bits3 (fun HT_ HW_ => ?_)
      generalize w103.drew = w104 at BK157 HB hHeld ⊢
      refine pureA 0 (some 6) (mkB 14 1) ?_
      refine pureA 4 (some 10) (mkB 14 17) ?_
      refine pureA 9 (some 15) (mkB 14 529) ?_
      refine takeA 1 (some 7) (mkB 14 531) ?_ rfl (Or.inl ⟨by rfl, by rintro w' ⟨s0, s1, s2⟩; go_simp; with_reducible rfl⟩)
      refine takeA 5 (some 11) (mkB 14 563) ?_ rfl (Or.inl ⟨by rfl, by rintro w' ⟨s0, s1, s2⟩; go_simp; with_reducible rfl⟩)
      refine takeA 10 (some 16) (mkB 14 1587) ?_ rfl (Or.inl ⟨by rfl, by rintro w' ⟨s0, s1, s2⟩; go_simp; with_reducible rfl⟩)
      refine oneA 2 (some 8) (mkB 14 1591) (fun K hK => ?_)
      refine goesS Tryz.func121 #[.int .i64 a0_0] ?_
      with_reducible refine (strconv_Itoa.calls _ _ _ ?side1 A4.out).mono ?_
      (case side1 => exact Tabs.below HT.out (bwA))
      rintro e w105 ⟨rfl, hb⟩
      refine ⟨_, rfl, ?_⟩
      replace BK157 := Aside0.mk (bkB BK157 hb)
      replace HB := Aside0.mk (below_step (bwA) hb)
      (try clear hb)
      refine hK.out _ _ ⟨(blk_cell BK157.out 0).trans rfl, (blk_cell BK157.out 1).trans rfl, (blk_cell BK157.out 2).trans rfl⟩ (fun hHeld => ?_)
      clear hK K
      refine normA ?_
      refine pureA 3 (some 9) (mkB 14 1599) ?_
      refine oneA 6 (some 12) (mkB 14 1663) (fun K hK => ?_)
      refine goesS Tryz.func121 #[.int .i64 a0_1] ?_
      with_reducible refine (strconv_Itoa.calls _ _ _ ?side1 A6.out).mono ?_
      (case side1 => exact Tabs.below HT.out (bwA))
      rintro e w106 ⟨rfl, hb⟩
      refine ⟨_, rfl, ?_⟩
      replace BK157 := Aside0.mk (bkB BK157 hb)
      replace HB := Aside0.mk (below_step (bwA) hb)
      (try clear hb)
      refine hK.out _ _ ⟨(blk_cell BK157.out 0).trans rfl, (blk_cell BK157.out 1).trans rfl, (blk_cell BK157.out 2).trans rfl⟩ (fun hHeld => ?_)
      clear hK K
      refine normA ?_
      refine pureA 7 (some 13) (mkB 14 1791) ?_
      refine pureA 8 (some 14) (mkB 14 2047) ?_
      refine oneA 11 (some 17) (mkB 14 4095) (fun K hK => ?_)
      refine goesS Tryz.func121 #[.int .i64 a0_2] ?_
      with_reducible refine (strconv_Itoa.calls _ _ _ ?side1 A9.out).mono ?_
      (case side1 => exact Tabs.below HT.out (bwA))
      rintro e w107 ⟨rfl, hb⟩
      refine ⟨_, rfl, ?_⟩
      replace BK157 := Aside0.mk (bkB BK157 hb)
      replace HB := Aside0.mk (below_step (bwA) hb)
      (try clear hb)
      refine hK.out _ _ ⟨(blk_cell BK157.out 0).trans rfl, (blk_cell BK157.out 1).trans rfl, (blk_cell BK157.out 2).trans rfl⟩ (fun hHeld => ?_)
      clear hK K
      refine normA ?_
      refine pureA 12 (some 18) (mkB 14 8191) ?_
      refine pureA 13 (some 2) (mkB 14 16383) ?_
      refine done_ (done_of HT_.out (by kernel_rfl)) ?_
      try go_wp2
      go_ret
      exact ⟨endA, bwA⟩
    | clear M2
      go_ret
      exact ⟨endA, bwA⟩
end Go.Proofs.YtkdndabpaajkaaaGreatDoor.A
