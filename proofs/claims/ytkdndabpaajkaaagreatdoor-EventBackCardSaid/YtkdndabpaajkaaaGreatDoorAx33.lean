-- By drv.py, the session's own driver round the kit's print: the machine's side of the laws, function by function. Not trusted: Lean checks it.
import Derived.Test.YtkdndabpaajkaaaGreatDoorAx0
import Derived.Test.YtkdndabpaajkaaaGreatDoorAx1
import Derived.Test.YtkdndabpaajkaaaGreatDoorAx6
import Derived.Test.YtkdndabpaajkaaaGreatDoorAx11
import Derived.Test.YtkdndabpaajkaaaGreatDoorAx14
import Derived.Test.YtkdndabpaajkaaaGreatDoorAx15
import Derived.Test.YtkdndabpaajkaaaGreatDoorAx24
import Derived.Test.YtkdndabpaajkaaaGreatDoorAx27
import Derived.Test.YtkdndabpaajkaaaGreatDoorAx32
namespace Go.Proofs.YtkdndabpaajkaaaGreatDoor.A
open Go.RowKit Go.Proofs.YtkdndabpaajkaaaGreatDoorW.PrintWords Go.Proofs.YtkdndabpaajkaaaGreatDoorW.PrintLast Go.Proofs.YtkdndabpaajkaaaGreatDoorW.PrintMore
attribute [local go_sem] max2_int min2_int max_two min_two max_three min_three max_four min_four   -- for this text's walks alone
set_option linter.unusedVariables false
set_option linter.unusedSimpArgs false

attribute [local go_sem high] eqA25
/-! ### caduceuslaw06_EventBack: function 10 -/
mutual
def caduceuslaw06_EventBack.j0 : Nat → ByteArray → Bool → Int → Int → Int → ByteArray → List (S76) → Option (Bool)
 | 0, _, _, _, _, _, _, _ => none
 | k + 1, x1, x24, x442000, x442001, x442002, x442003, x442004 => if x24 = true then ((caduceuslaw06_awake.f k).bind fun t443 => (some t443)) else ((event_Check.f k x442000 x442001 x442002 x442003 x442004).bind fun t444 => (if t444 = true then ((event_Show.f k x442000 x442001 x442002 x442003 x442004).bind fun t445 => ((event_Parse.f k t445).bind fun bt446 => ((event_Text.f k x442000 x442001 x442002 x442003 x442004).bind fun t455 => (if t455.size + x1.size ≤ 9223372036854775807 then ((event_Read.f k (t455 ++ x1)).bind fun bt456 => ((event_ShowID.f x442000 x442001 x442002).bind fun t466 => ((event_ParseID.f k t466).bind fun bt467 => (if bt446.2.2.2.2.2 = 0 then (if bt456.2.2.2.2.2.2 = 0 then (if bt467.2.2.2 = 0 then (if bt456.2.2.2.2.2.1.toList = x1.toList then ((event_Same.f k x442000 x442001 x442002 x442003 x442004 bt446.1 bt446.2.1 bt446.2.2.1 bt446.2.2.2.1 bt446.2.2.2.2.1).bind fun t472 => (if t472 = true then ((event_Same.f k x442000 x442001 x442002 x442003 x442004 bt456.1 bt456.2.1 bt456.2.2.1 bt456.2.2.2.1 bt456.2.2.2.2.1).bind fun t473 => (if t473 = true then (if (!(bt467.1 == x442000) || (!(bt467.2.1 == x442001) || (!(bt467.2.2.1 == x442002)))) = true then (none) else (caduceuslaw06_EventBack.j1 k x1)) else (none))) else (none))) else (none)) else (none)) else (none)) else (none))))) else (none))))) else (caduceuslaw06_EventBack.j1 k x1)))
def caduceuslaw06_EventBack.j1 : Nat → ByteArray → Option (Bool)
 | 0, _ => none
 | k + 1, x1 => (event_Parse.f k x1).bind fun bt474 => ((event_Read.f k x1).bind fun bt483 => ((caduceuslaw06_awake.f k).bind fun t493 => (if t493 = true then (if bt474.2.2.2.2.2 = 0 then ((event_Show.f k bt474.1 bt474.2.1 bt474.2.2.1 bt474.2.2.2.1 bt474.2.2.2.2.1).bind fun t494 => (if t494.toList = x1.toList then (if bt483.2.2.2.2.2.2 = 0 then ((event_Text.f k bt483.1 bt483.2.1 bt483.2.2.1 bt483.2.2.2.1 bt483.2.2.2.2.1).bind fun t495 => (if t495.size + bt483.2.2.2.2.2.1.size ≤ 9223372036854775807 then (some ((t495 ++ bt483.2.2.2.2.2.1).toList == x1.toList)) else (none))) else (some true)) else (none))) else (if bt483.2.2.2.2.2.2 = 0 then ((event_Text.f k bt483.1 bt483.2.1 bt483.2.2.1 bt483.2.2.2.1 bt483.2.2.2.2.1).bind fun t496 => (if t496.size + bt483.2.2.2.2.2.1.size ≤ 9223372036854775807 then (some ((t496 ++ bt483.2.2.2.2.2.1).toList == x1.toList)) else (none))) else (some true))) else (none))))
end
def caduceuslaw06_EventBack.f (k : Nat) (a0_0 : Int) (a0_1 : Int) (a0_2 : Int) (a0_3 : ByteArray) (l0_4 : List (S76)) (a1 : ByteArray) : Option (Bool) := (caduceuslaw06_Few.f k a0_0 a0_1 a0_2 a0_3 l0_4).bind fun t442 => (if t442 = true then (caduceuslaw06_EventBack.j0 k a1 (decide ((a1.size : Int) > 3000)) a0_0 a0_1 a0_2 a0_3 l0_4) else (caduceuslaw06_EventBack.j0 k a1 true a0_0 a0_1 a0_2 a0_3 l0_4))
theorem caduceuslaw06_EventBack.mono_l : ∀ k, (∀ y0 y1 y2 y3 y4 y5 y6, LeO (caduceuslaw06_EventBack.j0 k y0 y1 y2 y3 y4 y5 y6) (caduceuslaw06_EventBack.j0 (k + 1) y0 y1 y2 y3 y4 y5 y6)) ∧ (∀ y0, LeO (caduceuslaw06_EventBack.j1 k y0) (caduceuslaw06_EventBack.j1 (k + 1) y0))
 | 0 => ⟨fun _ _ _ _ _ _ _ r h => by simp [caduceuslaw06_EventBack.j0] at h, fun _ r h => by simp [caduceuslaw06_EventBack.j1] at h⟩
 | k + 1 => by
  obtain ⟨ih0, ih1⟩ := caduceuslaw06_EventBack.mono_l k
  refine ⟨?_, ?_⟩
  all_goals intros
  all_goals first | unfold caduceuslaw06_EventBack.j0 | unfold caduceuslaw06_EventBack.j1
  all_goals repeat' (with_reducible first | exact ih0 _ _ _ _ _ _ _ | exact ih1 _ | exact caduceuslaw06_Few.mono _ _ _ _ _ _ | exact caduceuslaw06_awake.mono _ | exact event_Check.mono _ _ _ _ _ _ | exact event_Parse.mono _ _ | exact event_ParseID.mono _ _ | exact event_Read.mono _ _ | exact event_Same.mono _ _ _ _ _ _ _ _ _ _ _ | exact event_Show.mono _ _ _ _ _ _ | exact event_Text.mono _ _ _ _ _ _ | exact LeO.refl _ | exact LeO.none _ | refine LeO.ite ?_ ?_ | refine LeO.bind ?_ (fun _ => ?_))
theorem caduceuslaw06_EventBack.mono : ∀ a0 a1 a2 a3 a4 a5 k, LeO (caduceuslaw06_EventBack.f k a0 a1 a2 a3 a4 a5) (caduceuslaw06_EventBack.f (k + 1) a0 a1 a2 a3 a4 a5) := by
 intro a0 a1 a2 a3 a4 a5 k
 obtain ⟨ih0, ih1⟩ := caduceuslaw06_EventBack.mono_l k
 unfold caduceuslaw06_EventBack.f
 repeat' (with_reducible first | exact ih0 _ _ _ _ _ _ _ | exact ih1 _ | exact caduceuslaw06_Few.mono _ _ _ _ _ _ | exact caduceuslaw06_awake.mono _ | exact event_Check.mono _ _ _ _ _ _ | exact event_Parse.mono _ _ | exact event_ParseID.mono _ _ | exact event_Read.mono _ _ | exact event_Same.mono _ _ _ _ _ _ _ _ _ _ _ | exact event_Show.mono _ _ _ _ _ _ | exact event_Text.mono _ _ _ _ _ _ | exact LeO.refl _ | exact LeO.none _ | refine LeO.ite ?_ ?_ | refine LeO.bind ?_ (fun _ => ?_))
set_option maxHeartbeats 8000000 in
set_option maxRecDepth 100000 in
theorem caduceuslaw06_EventBack.calls (k : Nat) (a0_0 : Int) (a0_1 : Int) (a0_2 : Int) (a0_3 : ByteArray) (A0_4 : Option Addr) (c0_4 : Nat) (l0_4 : List (S76)) (a1 : ByteArray) (r : Bool) (w : World) (hr0_4 : Kd.C k76 w A0_4 l0_4.length l0_4) (hc0_4 : l0_4.length ≤ c0_4) (hT : Tabs w) (h : caduceuslaw06_EventBack.f k a0_0 a0_1 a0_2 a0_3 l0_4 a1 = some r) :
  Calls Tryz.prog 10 #[.agg #[.int .i64 a0_0, .int .i64 a0_1, .int .i64 a0_2, .string a0_3, .slice A0_4 l0_4.length c0_4], .string a1] w fun e w' => e = .returned (.bool r) ∧ Below w.heap.size w w' := by
 have hu66 := Tryz.underlying66
 have hu25 := Tryz.underlying25
 have HR0_4 := Aside0.mk hr0_4
 have HC0_4 := Aside0.mk hc0_4
 clear hr0_4 hc0_4
 have HB := Aside0.mk (Below.refl w.heap.size w)
 unfold caduceuslaw06_EventBack.f at h
 have H := h
 clear h
 have HT := Aside0.mk hT
 clear hT
 have HC101 := Aside0.mk H
 clear H
 go_enter Tryz.func10, Tryz.ntmps10
 go_upto_region 1 with (first | ((with_reducible refine gate_dst (N := 2) rfl ?_); (try (refine gate_guard (by rfl) ?_; dsimp only)); refine boxA 2 #[.int .i64 a0_0, .int .i64 a0_1, .int .i64 a0_2, .string a0_3, .slice A0_4 l0_4.length c0_4] 66 ?_; intro gb441 hg w102 hbox hb; have n0_ := Aside0.mk (below_step (bwA) hb); have n1_ := Aside0.mk (hbox); have n2_ := Aside0.mk (hgW hg : w.heap.size ≤ gb441); have n3_ := Aside0.mk (hgW hg : w.heap.size ≤ gb441); clear HB; have HB := n0_; have BK441 := n1_; have GW441 := n2_; have GE441 := n3_; clear n0_ n1_ n2_ n3_; clear hb hbox hg))
 (try simp only [Act.put, List.setIfInBounds_toArray, List.set_cons_zero, List.set_cons_succ])
 go_cut [24] (fun v24 wc => ∃ (kq : Nat) (x24_100 : Bool), v24 = .bool x24_100 ∧ Aside0 (caduceuslaw06_EventBack.j0 kq a1 x24_100 a0_0 a0_1 a0_2 a0_3 l0_4 = some r) ∧ Aside0 (kq ≤ k) ∧ Aside0 (wc.heap[gb441]? = some (.cells #[.int .i64 a0_0, .int .i64 a0_1, .int .i64 a0_2, .string a0_3, (.slice A0_4 l0_4.length c0_4)] 66 (0, 0))) ∧ Aside0 (Below w.heap.size w wc))
 case first =>
  have H := HC101.out
  clear HC101
  replace H := Option.bind_eq_some_iff.mp H
  obtain ⟨t442, A1030, H⟩ := H
  replace H : (if t442 = true then (caduceuslaw06_EventBack.j0 k a1 (decide ((a1.size : Int) > 3000)) a0_0 a0_1 a0_2 a0_3 l0_4) else (caduceuslaw06_EventBack.j0 k a1 true a0_0 a0_1 a0_2 a0_3 l0_4)) = some r := H
  have A103 := Aside0.mk A1030
  clear A1030
  revert H; refine itR ?L3p ?L3n
  case' L3p =>
   intro c104 H
   subst c104
   have H' := Aside0.mk H
   clear H
   have M1 := True.intro
  case' L3n =>
   intro c104 H
   replace c104 := Bool.eq_false_iff.mpr c104
   subst c104
   have H' := Aside0.mk H
   clear H
   have M2 := True.intro
  all_goals
   case _ =>
    have hcz201_0 := celA BK441.out 0 (.int .i64 a0_0)
    have hcz201_1 := celA BK441.out 1 (.int .i64 a0_1)
    have hcz201_2 := celA BK441.out 2 (.int .i64 a0_2)
    have hcz201_3 := celA BK441.out 3 (.string a0_3)
    have hcz201_4 := celA BK441.out 4 (.slice A0_4 l0_4.length c0_4)
    have hfz201_0 := blk_frozen BK441.out 0
    have hfz201_1 := blk_frozen BK441.out 1
    have hfz201_2 := blk_frozen BK441.out 2
    have hfz201_3 := blk_frozen BK441.out 3
    have hfz201_4 := blk_frozen BK441.out 4
    try go_wp2_with (first | ((with_reducible refine gate_callee (f := 43) rfl ?_); refine goesA (some 18) Tryz.func43 #[.agg #[.int .i64 a0_0, .int .i64 a0_1, .int .i64 a0_2, .string a0_3, .slice A0_4 l0_4.length c0_4]] ?_; (with_reducible refine (caduceuslaw06_Few.calls _ _ _ _ _ _ _ _ _ _ ?side1 ?side2 A103.out).mono ?_); (case side1 => repeat (first | exact (Kd.C_below HR0_4.out HB.out) | (with_reducible refine Kd.C_alloc ?_ _) | (with_reducible refine Kd.C_drewN ?_ _) | (with_reducible refine Kd.C_drew ?_))); (case side2 => exact HC0_4.out); rintro e w202 ⟨rfl, hb⟩; refine ⟨_, rfl, ?_⟩; replace BK441 := Aside0.mk (bkB BK441 hb); replace HB := Aside0.mk (below_step (bwA) hb); (try clear hb)))
    go_meet
    first
     | clear M1
       case rel => exact ⟨_, (decide ((a1.size : Int) > 3000)), (endS), H', ⟨by first | omega | exact Nat.le_refl _⟩, ⟨by (with_reducible repeat (first | refine blk_drewN ?_ _ | refine blk_drew ?_ | refine blk_alloc ?_ _)); exact BK441.out⟩, ⟨bwA⟩⟩
     | clear M2
       case rel => exact ⟨_, (true), (endS), H', ⟨by first | omega | exact Nat.le_refl _⟩, ⟨by (with_reducible repeat (first | refine blk_drewN ?_ _ | refine blk_drew ?_ | refine blk_alloc ?_ _)); exact BK441.out⟩, ⟨bwA⟩⟩
 case rest =>
  clear HC101
  try clear c1
  try clear p2
  try clear c4
  try clear c10
  try clear c43
  try clear hcz201_0
  try clear hcz201_1
  try clear hcz201_2
  try clear hcz201_3
  try clear hcz201_4
  try clear hfz201_0
  try clear hfz201_1
  try clear hfz201_2
  try clear hfz201_3
  try clear hfz201_4
  obtain ⟨kq, x24_100, rfl, HA, HJ100, BK441, HB⟩ := hcut
  cases kq with
  | zero => exact absurd HA.out (by simp [caduceuslaw06_EventBack.j0])
  | succ kj100 =>
   have H := HA.out
   clear HA
   simp only [caduceuslaw06_EventBack.j0] at H
   revert H; refine itR ?L13p ?L13n
   case' L13p =>
    intro c103 H
    subst c103
    replace H := bnA H
    obtain ⟨t443, A104, H⟩ := H
    obtain rfl := Option.some.inj H
    try go_wp2_with (first | ((with_reducible refine gate_callee (f := 44) rfl ?_); refine goesA (some 25) Tryz.func44 #[] ?_; (with_reducible refine (caduceuslaw06_awake.calls _ _ _ ?side1 A104.out).mono ?_); (case side1 => exact Tabs.below HT.out (bwA)); rintro e w201 ⟨rfl, hb⟩; refine ⟨_, rfl, ?_⟩; replace BK441 := Aside0.mk (bkB BK441 hb); replace HB := Aside0.mk (below_step (bwA) hb); (try clear hb)))
    go_ret
    exact ⟨endA, bwA⟩
   case' L13n =>
    intro c103 H
    replace c103 := Bool.eq_false_iff.mpr c103
    subst c103
    replace H := bnA H
    obtain ⟨t444, A104, H⟩ := H
    have HC201 := Aside0.mk H
    clear H
    have hcz202_0 := celA BK441.out 0 (.int .i64 a0_0)
    have hcz202_1 := celA BK441.out 1 (.int .i64 a0_1)
    have hcz202_2 := celA BK441.out 2 (.int .i64 a0_2)
    have hcz202_3 := celA BK441.out 3 (.string a0_3)
    have hcz202_4 := celA BK441.out 4 (.slice A0_4 l0_4.length c0_4)
    have hfz202_0 := blk_frozen BK441.out 0
    have hfz202_1 := blk_frozen BK441.out 1
    have hfz202_2 := blk_frozen BK441.out 2
    have hfz202_3 := blk_frozen BK441.out 3
    have hfz202_4 := blk_frozen BK441.out 4
    go_upto_if 27 with (first | ((with_reducible refine gate_callee (f := 46) rfl ?_); refine goesA (some 27) Tryz.func46 #[.agg #[.int .i64 a0_0, .int .i64 a0_1, .int .i64 a0_2, .string a0_3, .slice A0_4 l0_4.length c0_4]] ?_; (with_reducible refine (event_Check.calls _ _ _ _ _ _ _ _ _ _ ?side1 ?side2 ?side3 A104.out).mono ?_); (case side1 => repeat (first | exact (Kd.C_below HR0_4.out HB.out) | (with_reducible refine Kd.C_alloc ?_ _) | (with_reducible refine Kd.C_drewN ?_ _) | (with_reducible refine Kd.C_drew ?_))); (case side2 => exact HC0_4.out); (case side3 => exact Tabs.below HT.out (bwA)); rintro e w203 ⟨rfl, hb⟩; refine ⟨_, rfl, ?_⟩; have n0_ := Aside0.mk (bkB BK441 hb); have n1_ := Aside0.mk (below_step (bwA) hb); clear BK441; clear HB; have BK441 := n0_; have HB := n1_; clear n0_ n1_; (try clear hb); (try clear hb2); (try clear hk); (try clear hi)))
    (try simp only [Act.put, List.setIfInBounds_toArray, List.set_cons_zero, List.set_cons_succ])
    go_cut [] (fun wc => ∃ (kq : Nat), Aside0 (caduceuslaw06_EventBack.j1 kq a1 = some r) ∧ Aside0 (kq ≤ kj100) ∧ Aside0 (wc.heap[gb441]? = some (.cells #[.int .i64 a0_0, .int .i64 a0_1, .int .i64 a0_2, .string a0_3, (.slice A0_4 l0_4.length c0_4)] 66 (0, 0))) ∧ Aside0 (Below w.heap.size w wc))
    case first =>
     have H := HC201.out
     clear HC201
     revert H; refine itR ?L14p ?L14n
     case' L14p =>
      intro c204 H
      subst c204
      replace H := bnA H
      obtain ⟨t445, A205, H⟩ := H
      replace H := bnA H
      obtain ⟨⟨t446, t447, t448, t449, t450, t453⟩, A206, H⟩ := H
      dsimp only at H
      replace H := bnA H
      obtain ⟨t455, A207, H⟩ := H
      replace H := itN H
      obtain ⟨c208, H⟩ := H
      have c208b0 := eq_true c208
      have c208b1 := decide_eq_true c208
      try have c208b2 : (9223372036854775807 < t455.size + a1.size) = False := eq_false (Nat.not_lt.2 c208)
      replace H := bnA H
      obtain ⟨⟨t456, t457, t458, t459, t460, t463, t464⟩, A209, H⟩ := H
      dsimp only at H
      replace H := bnA H
      obtain ⟨t466, A210, H⟩ := H
      replace H := bnA H
      obtain ⟨⟨t467, t468, t469, t470⟩, A211, H⟩ := H
      dsimp only at H
      replace H := itN H
      obtain ⟨c212, H⟩ := H
      obtain ⟨c212b0, c212b1⟩ := fcE c212
      clear c212
      (first | rw [c212b0] | (simp only [i64_w, i32_w]; rw [c212b0]) | skip)
      replace H := itN H
      obtain ⟨c213, H⟩ := H
      obtain ⟨c213b0, c213b1⟩ := fcE c213
      clear c213
      replace H := itN H
      obtain ⟨c214, H⟩ := H
      obtain ⟨c214b0, c214b1⟩ := fcE c214
      clear c214
      replace H := itN H
      obtain ⟨c215, H⟩ := H
      obtain ⟨c215b0, c215b1⟩ := fcE c215
      clear c215
      replace H := bnA H
      obtain ⟨t472, A216, H⟩ := H
      replace H := itN H
      obtain ⟨c217, H⟩ := H
      subst c217
      replace H := bnA H
      obtain ⟨t473, A218, H⟩ := H
      replace H := itN H
      obtain ⟨c219, H⟩ := H
      subst c219
      replace H := itM H
      obtain ⟨c220, H⟩ := H
      have c220b0 : (!(t467 == a0_0) || (!(t468 == a0_1) || (!(t469 == a0_2)))) = false := by simpa using c220
      clear c220
      have H' := Aside0.mk H
      clear H
      have hcz301_0 := celA BK441.out 0 (.int .i64 a0_0)
      have hcz301_1 := celA BK441.out 1 (.int .i64 a0_1)
      have hcz301_2 := celA BK441.out 2 (.int .i64 a0_2)
      have hcz301_3 := celA BK441.out 3 (.string a0_3)
      have hcz301_4 := celA BK441.out 4 (.slice A0_4 l0_4.length c0_4)
      have hfz301_0 := blk_frozen BK441.out 0
      have hfz301_1 := blk_frozen BK441.out 1
      have hfz301_2 := blk_frozen BK441.out 2
      have hfz301_3 := blk_frozen BK441.out 3
      have hfz301_4 := blk_frozen BK441.out 4
      try go_wp2_with (first | ((with_reducible refine gate_callee (f := 52) rfl ?_); refine goesA (some 30) Tryz.func52 #[.agg #[.int .i64 a0_0, .int .i64 a0_1, .int .i64 a0_2, .string a0_3, .slice A0_4 l0_4.length c0_4]] ?_; (with_reducible refine (event_Show.calls _ _ _ _ _ _ _ _ _ _ ?side1 ?side2 ?side3 A205.out).mono ?_); (case side1 => repeat (first | exact (Kd.C_below HR0_4.out HB.out) | (with_reducible refine Kd.C_alloc ?_ _) | (with_reducible refine Kd.C_drewN ?_ _) | (with_reducible refine Kd.C_drew ?_))); (case side2 => exact HC0_4.out); (case side3 => exact Tabs.below HT.out (bwA)); rintro e w302 ⟨rfl, hb⟩; refine ⟨_, rfl, ?_⟩; replace BK441 := Aside0.mk (bkB BK441 hb); replace HB := Aside0.mk (below_step (bwA) hb); (try clear hb)) | ((with_reducible refine gate_callee (f := 64) rfl ?_); refine goesA (some 31) Tryz.func64 #[.string t445] ?_; (with_reducible refine (event_Parse.calls _ _ _ _ _ _ _ _ _ ?side1 A206.out).mono ?_); (case side1 => exact Tabs.below HT.out (bwA)); rintro e w303 ⟨v451, rfl, ho0, hb⟩; refine ⟨_, rfl, ?_⟩; have HO452 := Aside0.mk (Kd.R_lower ho0 (below_size (bwA))); replace BK441 := Aside0.mk (bkB BK441 hb); replace HB := Aside0.mk (below_step (bwA) hb); (try clear hb); (try clear ho0)) | ((with_reducible refine gate_dst (N := 5) rfl ?_); (try (refine gate_guard (by rfl) ?_; dsimp only)); refine boxA 5 #[.int .i64 0, .int .i64 0, .int .i64 0, .string (⟨#[]⟩ : ByteArray), .slice none 0 0] 66 ?_; intro gb454 hg w304 hbox hb; have BK454 := Aside0.mk (hbox); have GW454 := Aside0.mk (hgW hg : w.heap.size ≤ gb454); have GE454 := Aside0.mk (hgW hg : w.heap.size ≤ gb454); have NB441_454 := Aside0.mk (hgL hg BK441 : gb441 ≠ gb454); have NB454_441 := Aside0.mk (hgG hg BK441 : gb454 ≠ gb441); replace HO452 := Aside0.mk (Kd.R_below (raA HO452.out) hb); replace BK441 := Aside0.mk (bkB BK441 hb); replace HB := Aside0.mk (below_step (bwA) hb); clear hb hbox hg; have hnb305 := NB454_441.out; have hnc305 := NB441_454.out; have hcz306_0 := celA BK454.out 0 (.int .i64 0); have hcz306_1 := celA BK454.out 1 (.int .i64 0); have hcz306_2 := celA BK454.out 2 (.int .i64 0); have hcz306_3 := celA BK454.out 3 (.string (⟨#[]⟩ : ByteArray)); have hcz306_4 := celA BK454.out 4 (.slice none 0 0); have hfz306_0 := blk_frozen BK454.out 0; have hfz306_1 := blk_frozen BK454.out 1; have hfz306_2 := blk_frozen BK454.out 2; have hfz306_3 := blk_frozen BK454.out 3; have hfz306_4 := blk_frozen BK454.out 4; obtain ⟨Ao307, co307, eo307⟩ := Kd.R_slice HO452.out; subst eo307; have hcz308_0 := celA BK441.out 0 (.int .i64 a0_0); have hcz308_1 := celA BK441.out 1 (.int .i64 a0_1); have hcz308_2 := celA BK441.out 2 (.int .i64 a0_2); have hcz308_3 := celA BK441.out 3 (.string a0_3); have hcz308_4 := celA BK441.out 4 (.slice A0_4 l0_4.length c0_4); have hfz308_0 := blk_frozen BK441.out 0; have hfz308_1 := blk_frozen BK441.out 1; have hfz308_2 := blk_frozen BK441.out 2; have hfz308_3 := blk_frozen BK441.out 3; have hfz308_4 := blk_frozen BK441.out 4) | ((with_reducible refine gate_callee (f := 54) rfl ?_); refine goesA (some 36) Tryz.func54 #[.agg #[.int .i64 a0_0, .int .i64 a0_1, .int .i64 a0_2, .string a0_3, .slice A0_4 l0_4.length c0_4]] ?_; (with_reducible refine (event_Text.calls _ _ _ _ _ _ _ _ _ _ ?side1 ?side2 ?side3 A207.out).mono ?_); (case side1 => exact Kd.C_below HR0_4.out (bwA)); (case side2 => exact HC0_4.out); (case side3 => exact Tabs.below HT.out (bwA)); rintro e w309 ⟨rfl, hb⟩; refine ⟨_, rfl, ?_⟩; replace HO452 := Aside0.mk (Kd.R_below (raA (Kd.R_mono (Kd.R_far (p := ⟨gb454, 4, none⟩) (Kd.R_far (p := ⟨gb454, 3, none⟩) (Kd.R_far (p := ⟨gb454, 2, none⟩) (Kd.R_far (p := ⟨gb454, 1, none⟩) (Kd.R_far (p := ⟨gb454, 0, none⟩) (Kd.R_types HO452.out BK454.out (by decide)) (fun _ hk => hk.2) (.int .i64 t446)) (fun _ hk => hk.2) (.int .i64 t447)) (fun _ hk => hk.2) (.int .i64 t448)) (fun _ hk => hk.2) (.string t449)) (fun _ hk => hk.2) (.slice Ao307 t450.length co307)) (fun _ h_ => h_.1))) hb); replace BK441 := Aside0.mk (blk_below (g := gb441) (o := .cells #[.int .i64 a0_0, .int .i64 a0_1, .int .i64 a0_2, .string a0_3, .slice A0_4 l0_4.length c0_4] 66 (0, 0)) (by (with_reducible repeat (first | refine blk_drewN ?_ _ | refine blk_drew ?_ | refine blk_alloc ?_ _)); refine blk_far ?_ NB441_454.out _; (with_reducible repeat (first | refine blk_drewN ?_ _ | refine blk_drew ?_ | refine blk_alloc ?_ _)); refine blk_far ?_ NB441_454.out _; (with_reducible repeat (first | refine blk_drewN ?_ _ | refine blk_drew ?_ | refine blk_alloc ?_ _)); refine blk_far ?_ NB441_454.out _; (with_reducible repeat (first | refine blk_drewN ?_ _ | refine blk_drew ?_ | refine blk_alloc ?_ _)); refine blk_far ?_ NB441_454.out _; (with_reducible repeat (first | refine blk_drewN ?_ _ | refine blk_drew ?_ | refine blk_alloc ?_ _)); refine blk_far ?_ NB441_454.out _; (with_reducible repeat (first | refine blk_drewN ?_ _ | refine blk_drew ?_ | refine blk_alloc ?_ _)); exact BK441.out) hb); replace BK454 := Aside0.mk (blk_below (g := gb454) (o := .cells #[.int .i64 t446, .int .i64 t447, .int .i64 t448, .string t449, .slice Ao307 t450.length co307] 66 (0, 0)) (by refine blkP (cs := #[.int .i64 t446, .int .i64 t447, .int .i64 t448, .string t449, .slice none 0 0]) ?_ 4 _; refine blkP (cs := #[.int .i64 t446, .int .i64 t447, .int .i64 t448, .string (⟨#[]⟩ : ByteArray), .slice none 0 0]) ?_ 3 _; refine blkP (cs := #[.int .i64 t446, .int .i64 t447, .int .i64 0, .string (⟨#[]⟩ : ByteArray), .slice none 0 0]) ?_ 2 _; refine blkP (cs := #[.int .i64 t446, .int .i64 0, .int .i64 0, .string (⟨#[]⟩ : ByteArray), .slice none 0 0]) ?_ 1 _; refine blkP (cs := #[.int .i64 0, .int .i64 0, .int .i64 0, .string (⟨#[]⟩ : ByteArray), .slice none 0 0]) ?_ 0 _; (with_reducible repeat (first | refine blk_drewN ?_ _ | refine blk_drew ?_ | refine blk_alloc ?_ _)); exact BK454.out) hb); replace HB := Aside0.mk (below_step (bwA) hb); (try clear hb)) | ((with_reducible refine gate_callee (f := 65) rfl ?_); refine goesA (some 39) Tryz.func65 #[.string (t455 ++ a1)] ?_; (with_reducible refine (event_Read.calls _ _ _ _ _ _ _ _ _ _ ?side1 A209.out).mono ?_); (case side1 => exact Tabs.below HT.out (bwA)); rintro e w310 ⟨v461, rfl, ho0, hb⟩; refine ⟨_, rfl, ?_⟩; have HO462 := Aside0.mk (Kd.R_lower (Kd.R_new' ho0 (Kd.R_lt (raA HO452.out))) (below_size (bwA))); replace HO452 := Aside0.mk (Kd.R_elder' (raA HO452.out) (Kd.R_base ho0) hb); replace BK441 := Aside0.mk (bkB BK441 hb); replace BK454 := Aside0.mk (bkB BK454 hb); replace HB := Aside0.mk (below_step (bwA) hb); (try clear hb); (try clear ho0)) | ((with_reducible refine gate_dst (N := 7) rfl ?_); (try (refine gate_guard (by rfl) ?_; dsimp only)); refine boxA 7 #[.int .i64 0, .int .i64 0, .int .i64 0, .string (⟨#[]⟩ : ByteArray), .slice none 0 0] 66 ?_; intro gb465 hg w311 hbox hb; have BK465 := Aside0.mk (hbox); have GW465 := Aside0.mk (hgW hg : w.heap.size ≤ gb465); have GE465 := Aside0.mk (hgW hg : w.heap.size ≤ gb465); have NB441_465 := Aside0.mk (hgL hg BK441 : gb441 ≠ gb465); have NB465_441 := Aside0.mk (hgG hg BK441 : gb465 ≠ gb441); have NB454_465 := Aside0.mk (hgL hg BK454 : gb454 ≠ gb465); have NB465_454 := Aside0.mk (hgG hg BK454 : gb465 ≠ gb454); replace HO452 := Aside0.mk (Kd.R_below (raA HO452.out) hb); replace HO462 := Aside0.mk (Kd.R_below (raA HO462.out) hb); replace BK441 := Aside0.mk (bkB BK441 hb); replace BK454 := Aside0.mk (bkB BK454 hb); replace HB := Aside0.mk (below_step (bwA) hb); clear hb hbox hg; have hnb312 := NB465_441.out; have hnc312 := NB441_465.out; have hnb313 := NB465_454.out; have hnc313 := NB454_465.out; have hcz314_0 := celA BK465.out 0 (.int .i64 0); have hcz314_1 := celA BK465.out 1 (.int .i64 0); have hcz314_2 := celA BK465.out 2 (.int .i64 0); have hcz314_3 := celA BK465.out 3 (.string (⟨#[]⟩ : ByteArray)); have hcz314_4 := celA BK465.out 4 (.slice none 0 0); have hfz314_0 := blk_frozen BK465.out 0; have hfz314_1 := blk_frozen BK465.out 1; have hfz314_2 := blk_frozen BK465.out 2; have hfz314_3 := blk_frozen BK465.out 3; have hfz314_4 := blk_frozen BK465.out 4; obtain ⟨Ao315, co315, eo315⟩ := Kd.R_slice HO462.out; subst eo315; have hcz316_0 := celA BK441.out 0 (.int .i64 a0_0); have hcz316_1 := celA BK441.out 1 (.int .i64 a0_1); have hcz316_2 := celA BK441.out 2 (.int .i64 a0_2); have hcz316_3 := celA BK441.out 3 (.string a0_3); have hcz316_4 := celA BK441.out 4 (.slice A0_4 l0_4.length c0_4); have hfz316_0 := blk_frozen BK441.out 0; have hfz316_1 := blk_frozen BK441.out 1; have hfz316_2 := blk_frozen BK441.out 2; have hfz316_3 := blk_frozen BK441.out 3; have hfz316_4 := blk_frozen BK441.out 4) | ((with_reducible refine gate_callee (f := 56) rfl ?_); refine goesA (some 46) Tryz.func56 #[.agg #[.int .i64 a0_0, .int .i64 a0_1, .int .i64 a0_2]] ?_; (with_reducible refine (event_ShowID.calls _ _ _ _ _ ?side1 A210.out).mono ?_); (case side1 => exact Tabs.below HT.out (bwA)); rintro e w317 ⟨rfl, hb⟩; refine ⟨_, rfl, ?_⟩; replace HO452 := Aside0.mk (Kd.R_below (raA (Kd.R_mono (Kd.R_far (p := ⟨gb465, 4, none⟩) (Kd.R_far (p := ⟨gb465, 3, none⟩) (Kd.R_far (p := ⟨gb465, 2, none⟩) (Kd.R_far (p := ⟨gb465, 1, none⟩) (Kd.R_far (p := ⟨gb465, 0, none⟩) (Kd.R_types HO452.out BK465.out (by decide)) (fun _ hk => hk.2) (.int .i64 t456)) (fun _ hk => hk.2) (.int .i64 t457)) (fun _ hk => hk.2) (.int .i64 t458)) (fun _ hk => hk.2) (.string t459)) (fun _ hk => hk.2) (.slice Ao315 t460.length co315)) (fun _ h_ => h_.1))) hb); replace HO462 := Aside0.mk (Kd.R_below (raA (Kd.R_mono (Kd.R_far (p := ⟨gb465, 4, none⟩) (Kd.R_far (p := ⟨gb465, 3, none⟩) (Kd.R_far (p := ⟨gb465, 2, none⟩) (Kd.R_far (p := ⟨gb465, 1, none⟩) (Kd.R_far (p := ⟨gb465, 0, none⟩) (Kd.R_types HO462.out BK465.out (by decide)) (fun _ hk => hk.2) (.int .i64 t456)) (fun _ hk => hk.2) (.int .i64 t457)) (fun _ hk => hk.2) (.int .i64 t458)) (fun _ hk => hk.2) (.string t459)) (fun _ hk => hk.2) (.slice Ao315 t460.length co315)) (fun _ h_ => h_.1))) hb); replace BK441 := Aside0.mk (blk_below (g := gb441) (o := .cells #[.int .i64 a0_0, .int .i64 a0_1, .int .i64 a0_2, .string a0_3, .slice A0_4 l0_4.length c0_4] 66 (0, 0)) (by (with_reducible repeat (first | refine blk_drewN ?_ _ | refine blk_drew ?_ | refine blk_alloc ?_ _)); refine blk_far ?_ NB441_465.out _; (with_reducible repeat (first | refine blk_drewN ?_ _ | refine blk_drew ?_ | refine blk_alloc ?_ _)); refine blk_far ?_ NB441_465.out _; (with_reducible repeat (first | refine blk_drewN ?_ _ | refine blk_drew ?_ | refine blk_alloc ?_ _)); refine blk_far ?_ NB441_465.out _; (with_reducible repeat (first | refine blk_drewN ?_ _ | refine blk_drew ?_ | refine blk_alloc ?_ _)); refine blk_far ?_ NB441_465.out _; (with_reducible repeat (first | refine blk_drewN ?_ _ | refine blk_drew ?_ | refine blk_alloc ?_ _)); refine blk_far ?_ NB441_465.out _; (with_reducible repeat (first | refine blk_drewN ?_ _ | refine blk_drew ?_ | refine blk_alloc ?_ _)); exact BK441.out) hb); replace BK454 := Aside0.mk (blk_below (g := gb454) (o := .cells #[.int .i64 t446, .int .i64 t447, .int .i64 t448, .string t449, .slice Ao307 t450.length co307] 66 (0, 0)) (by (with_reducible repeat (first | refine blk_drewN ?_ _ | refine blk_drew ?_ | refine blk_alloc ?_ _)); refine blk_far ?_ NB454_465.out _; (with_reducible repeat (first | refine blk_drewN ?_ _ | refine blk_drew ?_ | refine blk_alloc ?_ _)); refine blk_far ?_ NB454_465.out _; (with_reducible repeat (first | refine blk_drewN ?_ _ | refine blk_drew ?_ | refine blk_alloc ?_ _)); refine blk_far ?_ NB454_465.out _; (with_reducible repeat (first | refine blk_drewN ?_ _ | refine blk_drew ?_ | refine blk_alloc ?_ _)); refine blk_far ?_ NB454_465.out _; (with_reducible repeat (first | refine blk_drewN ?_ _ | refine blk_drew ?_ | refine blk_alloc ?_ _)); refine blk_far ?_ NB454_465.out _; (with_reducible repeat (first | refine blk_drewN ?_ _ | refine blk_drew ?_ | refine blk_alloc ?_ _)); exact BK454.out) hb); replace BK465 := Aside0.mk (blk_below (g := gb465) (o := .cells #[.int .i64 t456, .int .i64 t457, .int .i64 t458, .string t459, .slice Ao315 t460.length co315] 66 (0, 0)) (by refine blkP (cs := #[.int .i64 t456, .int .i64 t457, .int .i64 t458, .string t459, .slice none 0 0]) ?_ 4 _; refine blkP (cs := #[.int .i64 t456, .int .i64 t457, .int .i64 t458, .string (⟨#[]⟩ : ByteArray), .slice none 0 0]) ?_ 3 _; refine blkP (cs := #[.int .i64 t456, .int .i64 t457, .int .i64 0, .string (⟨#[]⟩ : ByteArray), .slice none 0 0]) ?_ 2 _; refine blkP (cs := #[.int .i64 t456, .int .i64 0, .int .i64 0, .string (⟨#[]⟩ : ByteArray), .slice none 0 0]) ?_ 1 _; refine blkP (cs := #[.int .i64 0, .int .i64 0, .int .i64 0, .string (⟨#[]⟩ : ByteArray), .slice none 0 0]) ?_ 0 _; (with_reducible repeat (first | refine blk_drewN ?_ _ | refine blk_drew ?_ | refine blk_alloc ?_ _)); exact BK465.out) hb); replace HB := Aside0.mk (below_step (bwA) hb); (try clear hb)) | ((with_reducible refine gate_callee (f := 66) rfl ?_); refine goesA (some 47) Tryz.func66 #[.string t466] ?_; (with_reducible refine (event_ParseID.calls _ _ _ _ _ _ _ ?side1 A211.out).mono ?_); (case side1 => exact Tabs.below HT.out (bwA)); rintro e w318 ⟨rfl, hb⟩; refine ⟨_, rfl, ?_⟩; replace HO452 := Aside0.mk (Kd.R_below (raA HO452.out) hb); replace HO462 := Aside0.mk (Kd.R_below (raA HO462.out) hb); replace BK441 := Aside0.mk (bkB BK441 hb); replace BK454 := Aside0.mk (bkB BK454 hb); replace BK465 := Aside0.mk (bkB BK465 hb); replace HB := Aside0.mk (below_step (bwA) hb); (try clear hb)) | ((with_reducible refine gate_dst (N := 10) rfl ?_); (try (refine gate_guard (by rfl) ?_; dsimp only)); refine boxA 10 #[.int .i64 0, .int .i64 0, .int .i64 0] 25 ?_; intro gb471 hg w319 hbox hb; have BK471 := Aside0.mk (hbox); have GW471 := Aside0.mk (hgW hg : w.heap.size ≤ gb471); have GE471 := Aside0.mk (hgW hg : w.heap.size ≤ gb471); have NB441_471 := Aside0.mk (hgL hg BK441 : gb441 ≠ gb471); have NB471_441 := Aside0.mk (hgG hg BK441 : gb471 ≠ gb441); have NB454_471 := Aside0.mk (hgL hg BK454 : gb454 ≠ gb471); have NB471_454 := Aside0.mk (hgG hg BK454 : gb471 ≠ gb454); have NB465_471 := Aside0.mk (hgL hg BK465 : gb465 ≠ gb471); have NB471_465 := Aside0.mk (hgG hg BK465 : gb471 ≠ gb465); replace HO452 := Aside0.mk (Kd.R_below (raA HO452.out) hb); replace HO462 := Aside0.mk (Kd.R_below (raA HO462.out) hb); replace BK441 := Aside0.mk (bkB BK441 hb); replace BK454 := Aside0.mk (bkB BK454 hb); replace BK465 := Aside0.mk (bkB BK465 hb); replace HB := Aside0.mk (below_step (bwA) hb); clear hb hbox hg; have hnb320 := NB471_441.out; have hnc320 := NB441_471.out; have hnb321 := NB471_454.out; have hnc321 := NB454_471.out; have hnb322 := NB471_465.out; have hnc322 := NB465_471.out; have hcz323_0 := celA BK471.out 0 (.int .i64 0); have hcz323_1 := celA BK471.out 1 (.int .i64 0); have hcz323_2 := celA BK471.out 2 (.int .i64 0); have hfz323_0 := blk_frozen BK471.out 0; have hfz323_1 := blk_frozen BK471.out 1; have hfz323_2 := blk_frozen BK471.out 2; have hcz324_0 := celA BK441.out 0 (.int .i64 a0_0); have hcz324_1 := celA BK441.out 1 (.int .i64 a0_1); have hcz324_2 := celA BK441.out 2 (.int .i64 a0_2); have hcz324_3 := celA BK441.out 3 (.string a0_3); have hcz324_4 := celA BK441.out 4 (.slice A0_4 l0_4.length c0_4); have hfz324_0 := blk_frozen BK441.out 0; have hfz324_1 := blk_frozen BK441.out 1; have hfz324_2 := blk_frozen BK441.out 2; have hfz324_3 := blk_frozen BK441.out 3; have hfz324_4 := blk_frozen BK441.out 4; have hcz325_0 := celA BK454.out 0 (.int .i64 t446); have hcz325_1 := celA BK454.out 1 (.int .i64 t447); have hcz325_2 := celA BK454.out 2 (.int .i64 t448); have hcz325_3 := celA BK454.out 3 (.string t449); have hcz325_4 := celA BK454.out 4 (.slice Ao307 t450.length co307); have hfz325_0 := blk_frozen BK454.out 0; have hfz325_1 := blk_frozen BK454.out 1; have hfz325_2 := blk_frozen BK454.out 2; have hfz325_3 := blk_frozen BK454.out 3; have hfz325_4 := blk_frozen BK454.out 4) | (go_at_call 48; (with_reducible refine (event_Same.calls _ _ _ _ _ _ _ _ _ _ _ _ _ _ _ _ _ ?side1 ?side2 ?side3 ?side4 A216.out).mono ?_); (case side1 => exact Kd.C_below HR0_4.out (bwA)); (case side2 => exact HC0_4.out); (case side3 => refine (Kd.R_reads' (e := 76) (base := w.heap.size) (ok := fun k_ => (True ∧ some k_ ≠ (.slice Ao315 t460.length co315 : Value).ownBlock)) (n := t450.length) (c := co307) ?_).2.2; exact (raA (Kd.R_mono (Kd.R_far (p := ⟨gb471, 2, none⟩) (Kd.R_far (p := ⟨gb471, 1, none⟩) (Kd.R_far (p := ⟨gb471, 0, none⟩) (Kd.R_types HO452.out BK471.out (by decide)) (fun _ hk => hk.2) (.int .i64 t467)) (fun _ hk => hk.2) (.int .i64 t468)) (fun _ hk => hk.2) (.int .i64 t469)) (fun _ h_ => h_.1)))); (case side4 => exact (Kd.R_reads' HO452.out).2.1); rintro e w326 ⟨rfl, hb⟩; replace HO452 := Aside0.mk (Kd.R_below (raA (Kd.R_mono (Kd.R_far (p := ⟨gb471, 2, none⟩) (Kd.R_far (p := ⟨gb471, 1, none⟩) (Kd.R_far (p := ⟨gb471, 0, none⟩) (Kd.R_types HO452.out BK471.out (by decide)) (fun _ hk => hk.2) (.int .i64 t467)) (fun _ hk => hk.2) (.int .i64 t468)) (fun _ hk => hk.2) (.int .i64 t469)) (fun _ h_ => h_.1))) hb); replace HO462 := Aside0.mk (Kd.R_below (raA (Kd.R_mono (Kd.R_far (p := ⟨gb471, 2, none⟩) (Kd.R_far (p := ⟨gb471, 1, none⟩) (Kd.R_far (p := ⟨gb471, 0, none⟩) (Kd.R_types HO462.out BK471.out (by decide)) (fun _ hk => hk.2) (.int .i64 t467)) (fun _ hk => hk.2) (.int .i64 t468)) (fun _ hk => hk.2) (.int .i64 t469)) (fun _ h_ => h_.1))) hb); replace BK441 := Aside0.mk (blk_below (g := gb441) (o := .cells #[.int .i64 a0_0, .int .i64 a0_1, .int .i64 a0_2, .string a0_3, .slice A0_4 l0_4.length c0_4] 66 (0, 0)) (by (with_reducible repeat (first | refine blk_drewN ?_ _ | refine blk_drew ?_ | refine blk_alloc ?_ _)); refine blk_far ?_ NB441_471.out _; (with_reducible repeat (first | refine blk_drewN ?_ _ | refine blk_drew ?_ | refine blk_alloc ?_ _)); refine blk_far ?_ NB441_471.out _; (with_reducible repeat (first | refine blk_drewN ?_ _ | refine blk_drew ?_ | refine blk_alloc ?_ _)); refine blk_far ?_ NB441_471.out _; (with_reducible repeat (first | refine blk_drewN ?_ _ | refine blk_drew ?_ | refine blk_alloc ?_ _)); exact BK441.out) hb); replace BK454 := Aside0.mk (blk_below (g := gb454) (o := .cells #[.int .i64 t446, .int .i64 t447, .int .i64 t448, .string t449, .slice Ao307 t450.length co307] 66 (0, 0)) (by (with_reducible repeat (first | refine blk_drewN ?_ _ | refine blk_drew ?_ | refine blk_alloc ?_ _)); refine blk_far ?_ NB454_471.out _; (with_reducible repeat (first | refine blk_drewN ?_ _ | refine blk_drew ?_ | refine blk_alloc ?_ _)); refine blk_far ?_ NB454_471.out _; (with_reducible repeat (first | refine blk_drewN ?_ _ | refine blk_drew ?_ | refine blk_alloc ?_ _)); refine blk_far ?_ NB454_471.out _; (with_reducible repeat (first | refine blk_drewN ?_ _ | refine blk_drew ?_ | refine blk_alloc ?_ _)); exact BK454.out) hb); replace BK465 := Aside0.mk (blk_below (g := gb465) (o := .cells #[.int .i64 t456, .int .i64 t457, .int .i64 t458, .string t459, .slice Ao315 t460.length co315] 66 (0, 0)) (by (with_reducible repeat (first | refine blk_drewN ?_ _ | refine blk_drew ?_ | refine blk_alloc ?_ _)); refine blk_far ?_ NB465_471.out _; (with_reducible repeat (first | refine blk_drewN ?_ _ | refine blk_drew ?_ | refine blk_alloc ?_ _)); refine blk_far ?_ NB465_471.out _; (with_reducible repeat (first | refine blk_drewN ?_ _ | refine blk_drew ?_ | refine blk_alloc ?_ _)); refine blk_far ?_ NB465_471.out _; (with_reducible repeat (first | refine blk_drewN ?_ _ | refine blk_drew ?_ | refine blk_alloc ?_ _)); exact BK465.out) hb); replace BK471 := Aside0.mk (blk_below (g := gb471) (o := .cells #[.int .i64 t467, .int .i64 t468, .int .i64 t469] 25 (0, 0)) (by refine blkP (cs := #[.int .i64 t467, .int .i64 t468, .int .i64 0]) ?_ 2 _; refine blkP (cs := #[.int .i64 t467, .int .i64 0, .int .i64 0]) ?_ 1 _; refine blkP (cs := #[.int .i64 0, .int .i64 0, .int .i64 0]) ?_ 0 _; (with_reducible repeat (first | refine blk_drewN ?_ _ | refine blk_drew ?_ | refine blk_alloc ?_ _)); exact BK471.out) hb); replace HB := Aside0.mk (below_step (bwA) hb); (try clear hb); have hcz327_0 := celA BK441.out 0 (.int .i64 a0_0); have hcz327_1 := celA BK441.out 1 (.int .i64 a0_1); have hcz327_2 := celA BK441.out 2 (.int .i64 a0_2); have hcz327_3 := celA BK441.out 3 (.string a0_3); have hcz327_4 := celA BK441.out 4 (.slice A0_4 l0_4.length c0_4); have hfz327_0 := blk_frozen BK441.out 0; have hfz327_1 := blk_frozen BK441.out 1; have hfz327_2 := blk_frozen BK441.out 2; have hfz327_3 := blk_frozen BK441.out 3; have hfz327_4 := blk_frozen BK441.out 4; have hcz328_0 := celA BK465.out 0 (.int .i64 t456); have hcz328_1 := celA BK465.out 1 (.int .i64 t457); have hcz328_2 := celA BK465.out 2 (.int .i64 t458); have hcz328_3 := celA BK465.out 3 (.string t459); have hcz328_4 := celA BK465.out 4 (.slice Ao315 t460.length co315); have hfz328_0 := blk_frozen BK465.out 0; have hfz328_1 := blk_frozen BK465.out 1; have hfz328_2 := blk_frozen BK465.out 2; have hfz328_3 := blk_frozen BK465.out 3; have hfz328_4 := blk_frozen BK465.out 4) | (go_at_call 48; (with_reducible refine (event_Same.calls _ _ _ _ _ _ _ _ _ _ _ _ _ _ _ _ _ ?side1 ?side2 ?side3 ?side4 A218.out).mono ?_); (case side1 => repeat (first | exact (Kd.C_below HR0_4.out HB.out) | (with_reducible refine Kd.C_alloc ?_ _) | (with_reducible refine Kd.C_drewN ?_ _) | (with_reducible refine Kd.C_drew ?_))); (case side2 => exact HC0_4.out); (case side3 => repeat (first | exact (Kd.R_reads' HO462.out).2.2 | (with_reducible refine Kd.C_alloc ?_ _) | (with_reducible refine Kd.C_drewN ?_ _) | (with_reducible refine Kd.C_drew ?_))); (case side4 => exact (Kd.R_reads' HO462.out).2.1); rintro e w329 ⟨rfl, hb⟩; replace HO452 := Aside0.mk (Kd.R_below (raA HO452.out) hb); replace HO462 := Aside0.mk (Kd.R_below (raA HO462.out) hb); replace BK441 := Aside0.mk (bkB BK441 hb); replace BK454 := Aside0.mk (bkB BK454 hb); replace BK465 := Aside0.mk (bkB BK465 hb); replace BK471 := Aside0.mk (bkB BK471 hb); replace HB := Aside0.mk (below_step (bwA) hb); (try clear hb); have hcz330_0 := celA BK471.out 0 (.int .i64 t467); have hcz330_1 := celA BK471.out 1 (.int .i64 t468); have hcz330_2 := celA BK471.out 2 (.int .i64 t469); have hfz330_0 := blk_frozen BK471.out 0; have hfz330_1 := blk_frozen BK471.out 1; have hfz330_2 := blk_frozen BK471.out 2; have hcz331_0 := celA BK441.out 0 (.int .i64 a0_0); have hcz331_1 := celA BK441.out 1 (.int .i64 a0_1); have hcz331_2 := celA BK441.out 2 (.int .i64 a0_2); have hcz331_3 := celA BK441.out 3 (.string a0_3); have hcz331_4 := celA BK441.out 4 (.slice A0_4 l0_4.length c0_4); have hfz331_0 := blk_frozen BK441.out 0; have hfz331_1 := blk_frozen BK441.out 1; have hfz331_2 := blk_frozen BK441.out 2; have hfz331_3 := blk_frozen BK441.out 3; have hfz331_4 := blk_frozen BK441.out 4))
      go_meet
      case rel => exact ⟨_, H', ⟨by have := HJ100.out; first | omega | exact Nat.le_refl _⟩, ⟨by (with_reducible repeat (first | refine blk_drewN ?_ _ | refine blk_drew ?_ | refine blk_alloc ?_ _)); exact BK441.out⟩, ⟨bwA⟩⟩
     case' L14n =>
      intro c204 H
      replace c204 := Bool.eq_false_iff.mpr c204
      subst c204
      have H' := Aside0.mk H
      clear H
      go_wp2
      go_meet
      case rel => exact ⟨_, H', ⟨by have := HJ100.out; first | omega | exact Nat.le_refl _⟩, ⟨by (with_reducible repeat (first | refine blk_drewN ?_ _ | refine blk_drew ?_ | refine blk_alloc ?_ _)); exact BK441.out⟩, ⟨bwA⟩⟩
    case rest =>
     clear HC201
     try clear c1
     try clear c2
     try clear p2
     try clear c3
     try clear c4
     try clear c5
     try clear c6
     try clear c10
     try clear c20
     try clear c21
     try clear c22
     try clear c30
     try clear c31
     try clear c32
     try clear c43
     try clear c44
     try clear c46
     try clear c52
     try clear c54
     try clear c56
     try clear c64
     try clear c65
     try clear c66
     try clear c103
     try clear c104
     try clear hcz201_0
     try clear hcz201_1
     try clear hcz201_2
     try clear hcz201_3
     try clear hcz201_4
     try clear hcz202_0
     try clear hcz202_1
     try clear hcz202_2
     try clear hcz202_3
     try clear hcz202_4
     try clear hcz301_0
     try clear hcz301_1
     try clear hcz301_2
     try clear hcz301_3
     try clear hcz301_4
     try clear hcz306_0
     try clear hcz306_1
     try clear hcz306_2
     try clear hcz306_3
     try clear hcz306_4
     try clear hcz308_0
     try clear hcz308_1
     try clear hcz308_2
     try clear hcz308_3
     try clear hcz308_4
     try clear hcz314_0
     try clear hcz314_1
     try clear hcz314_2
     try clear hcz314_3
     try clear hcz314_4
     try clear hcz316_0
     try clear hcz316_1
     try clear hcz316_2
     try clear hcz316_3
     try clear hcz316_4
     try clear hcz323_0
     try clear hcz323_1
     try clear hcz323_2
     try clear hcz324_0
     try clear hcz324_1
     try clear hcz324_2
     try clear hcz324_3
     try clear hcz324_4
     try clear hcz325_0
     try clear hcz325_1
     try clear hcz325_2
     try clear hcz325_3
     try clear hcz325_4
     try clear hcz327_0
     try clear hcz327_1
     try clear hcz327_2
     try clear hcz327_3
     try clear hcz327_4
     try clear hcz328_0
     try clear hcz328_1
     try clear hcz328_2
     try clear hcz328_3
     try clear hcz328_4
     try clear hcz330_0
     try clear hcz330_1
     try clear hcz330_2
     try clear hcz331_0
     try clear hcz331_1
     try clear hcz331_2
     try clear hcz331_3
     try clear hcz331_4
     try clear hfz201_0
     try clear hfz201_1
     try clear hfz201_2
     try clear hfz201_3
     try clear hfz201_4
     try clear hfz202_0
     try clear hfz202_1
     try clear hfz202_2
     try clear hfz202_3
     try clear hfz202_4
     try clear hfz301_0
     try clear hfz301_1
     try clear hfz301_2
     try clear hfz301_3
     try clear hfz301_4
     try clear hfz306_0
     try clear hfz306_1
     try clear hfz306_2
     try clear hfz306_3
     try clear hfz306_4
     try clear hfz308_0
     try clear hfz308_1
     try clear hfz308_2
     try clear hfz308_3
     try clear hfz308_4
     try clear hfz314_0
     try clear hfz314_1
     try clear hfz314_2
     try clear hfz314_3
     try clear hfz314_4
     try clear hfz316_0
     try clear hfz316_1
     try clear hfz316_2
     try clear hfz316_3
     try clear hfz316_4
     try clear hfz323_0
     try clear hfz323_1
     try clear hfz323_2
     try clear hfz324_0
     try clear hfz324_1
     try clear hfz324_2
     try clear hfz324_3
     try clear hfz324_4
     try clear hfz325_0
     try clear hfz325_1
     try clear hfz325_2
     try clear hfz325_3
     try clear hfz325_4
     try clear hfz327_0
     try clear hfz327_1
     try clear hfz327_2
     try clear hfz327_3
     try clear hfz327_4
     try clear hfz328_0
     try clear hfz328_1
     try clear hfz328_2
     try clear hfz328_3
     try clear hfz328_4
     try clear hfz330_0
     try clear hfz330_1
     try clear hfz330_2
     try clear hfz331_0
     try clear hfz331_1
     try clear hfz331_2
     try clear hfz331_3
     try clear hfz331_4
     try clear p2
     obtain ⟨kq, HA, HJ200, BK441, HB⟩ := hcut
     cases kq with
     | zero => exact absurd HA.out (by simp [caduceuslaw06_EventBack.j1])
     | succ kj200 =>
      have H := HA.out
      clear HA
      simp only [caduceuslaw06_EventBack.j1] at H
      replace H := Option.bind_eq_some_iff.mp H
      obtain ⟨⟨t474, t475, t476, t477, t478, t481⟩, A2040, H⟩ := H
      replace H : ((event_Read.f kj200 a1).bind fun bt483 => ((caduceuslaw06_awake.f kj200).bind fun t493 => (if t493 = true then (if t481 = 0 then ((event_Show.f kj200 t474 t475 t476 t477 t478).bind fun t494 => (if t494.toList = a1.toList then (if bt483.2.2.2.2.2.2 = 0 then ((event_Text.f kj200 bt483.1 bt483.2.1 bt483.2.2.1 bt483.2.2.2.1 bt483.2.2.2.2.1).bind fun t495 => (if t495.size + bt483.2.2.2.2.2.1.size ≤ 9223372036854775807 then (some ((t495 ++ bt483.2.2.2.2.2.1).toList == a1.toList)) else (none))) else (some true)) else (none))) else (if bt483.2.2.2.2.2.2 = 0 then ((event_Text.f kj200 bt483.1 bt483.2.1 bt483.2.2.1 bt483.2.2.2.1 bt483.2.2.2.2.1).bind fun t496 => (if t496.size + bt483.2.2.2.2.2.1.size ≤ 9223372036854775807 then (some ((t496 ++ bt483.2.2.2.2.2.1).toList == a1.toList)) else (none))) else (some true))) else (none)))) = some r := H
      have A204 := Aside0.mk A2040
      clear A2040
      replace H := Option.bind_eq_some_iff.mp H
      obtain ⟨⟨t483, t484, t485, t486, t487, t490, t491⟩, A2050, H⟩ := H
      replace H : ((caduceuslaw06_awake.f kj200).bind fun t493 => (if t493 = true then (if t481 = 0 then ((event_Show.f kj200 t474 t475 t476 t477 t478).bind fun t494 => (if t494.toList = a1.toList then (if t491 = 0 then ((event_Text.f kj200 t483 t484 t485 t486 t487).bind fun t495 => (if t495.size + t490.size ≤ 9223372036854775807 then (some ((t495 ++ t490).toList == a1.toList)) else (none))) else (some true)) else (none))) else (if t491 = 0 then ((event_Text.f kj200 t483 t484 t485 t486 t487).bind fun t496 => (if t496.size + t490.size ≤ 9223372036854775807 then (some ((t496 ++ t490).toList == a1.toList)) else (none))) else (some true))) else (none))) = some r := H
      have A205 := Aside0.mk A2050
      clear A2050
      replace H := Option.bind_eq_some_iff.mp H
      obtain ⟨t493, A2060, H⟩ := H
      replace H : (if t493 = true then (if t481 = 0 then ((event_Show.f kj200 t474 t475 t476 t477 t478).bind fun t494 => (if t494.toList = a1.toList then (if t491 = 0 then ((event_Text.f kj200 t483 t484 t485 t486 t487).bind fun t495 => (if t495.size + t490.size ≤ 9223372036854775807 then (some ((t495 ++ t490).toList == a1.toList)) else (none))) else (some true)) else (none))) else (if t491 = 0 then ((event_Text.f kj200 t483 t484 t485 t486 t487).bind fun t496 => (if t496.size + t490.size ≤ 9223372036854775807 then (some ((t496 ++ t490).toList == a1.toList)) else (none))) else (some true))) else (none)) = some r := H
      have A206 := Aside0.mk A2060
      clear A2060
      replace H := itN H
      obtain ⟨c207, H⟩ := H
      subst c207
      revert H; refine itR ?L20p ?L20n
      case' L20p =>
       intro c208 H
       obtain ⟨c208b0, c208b1⟩ := fcE c208
       clear c208
       replace H := bnA H
       obtain ⟨t494, A209, H⟩ := H
       replace H := itN H
       obtain ⟨c210, H⟩ := H
       obtain ⟨c210b0, c210b1⟩ := fcE c210
       clear c210
       revert H; refine itR ?L21p ?L21n
       case' L21p =>
        intro c211 H
        obtain ⟨c211b0, c211b1⟩ := fcE c211
        clear c211
        replace H := bnA H
        obtain ⟨t495, A212, H⟩ := H
        replace H := itN H
        obtain ⟨c213, H⟩ := H
        have c213b0 := eq_true c213
        have c213b1 := decide_eq_true c213
        try have c213b2 : (9223372036854775807 < t495.size + t490.size) = False := eq_false (Nat.not_lt.2 c213)
        obtain rfl := Option.some.inj H
        have M15 := True.intro
        have M16 := True.intro
       case' L21n =>
        intro c211 H
        obtain ⟨c211b0, c211b1⟩ := fcN c211
        obtain rfl := Option.some.inj H
        have M15 := True.intro
        have M17 := True.intro
      case' L20n =>
       intro c208 H
       obtain ⟨c208b0, c208b1⟩ := fcN c208
       revert H; refine itR ?L22p ?L22n
       case' L22p =>
        intro c209 H
        obtain ⟨c209b0, c209b1⟩ := fcE c209
        clear c209
        replace H := bnA H
        obtain ⟨t496, A210, H⟩ := H
        replace H := itN H
        obtain ⟨c211, H⟩ := H
        have c211b0 := eq_true c211
        have c211b1 := decide_eq_true c211
        try have c211b2 : (9223372036854775807 < t496.size + t490.size) = False := eq_false (Nat.not_lt.2 c211)
        obtain rfl := Option.some.inj H
        have M18 := True.intro
       case' L22n =>
        intro c209 H
        obtain ⟨c209b0, c209b1⟩ := fcN c209
        obtain rfl := Option.some.inj H
        have M19 := True.intro
      all_goals
       case _ =>
        go_wp2_with (first | ((with_reducible refine gate_callee (f := 64) rfl ?_); refine goesA (some 85) Tryz.func64 #[.string a1] ?_; (with_reducible refine (event_Parse.calls _ _ _ _ _ _ _ _ _ ?side1 A204.out).mono ?_); (case side1 => exact Tabs.below HT.out (bwA)); rintro e w301 ⟨v479, rfl, ho0, hb⟩; refine ⟨_, rfl, ?_⟩; have HO480 := Aside0.mk (Kd.R_lower ho0 (below_size (bwA))); replace BK441 := Aside0.mk (bkB BK441 hb); replace HB := Aside0.mk (below_step (bwA) hb); (try clear hb); (try clear ho0)) | ((with_reducible refine gate_dst (N := 12) rfl ?_); (try (refine gate_guard (by rfl) ?_; dsimp only)); refine boxA 12 #[.int .i64 0, .int .i64 0, .int .i64 0, .string (⟨#[]⟩ : ByteArray), .slice none 0 0] 66 ?_; intro gb482 hg w302 hbox hb; have BK482 := Aside0.mk (hbox); have GW482 := Aside0.mk (hgW hg : w.heap.size ≤ gb482); have GE482 := Aside0.mk (hgW hg : w.heap.size ≤ gb482); have NB441_482 := Aside0.mk (hgL hg BK441 : gb441 ≠ gb482); have NB482_441 := Aside0.mk (hgG hg BK441 : gb482 ≠ gb441); replace HO480 := Aside0.mk (Kd.R_below (raA HO480.out) hb); replace BK441 := Aside0.mk (bkB BK441 hb); replace HB := Aside0.mk (below_step (bwA) hb); clear hb hbox hg; have hnb303 := NB482_441.out; have hnc303 := NB441_482.out; have hcz304_0 := celA BK482.out 0 (.int .i64 0); have hcz304_1 := celA BK482.out 1 (.int .i64 0); have hcz304_2 := celA BK482.out 2 (.int .i64 0); have hcz304_3 := celA BK482.out 3 (.string (⟨#[]⟩ : ByteArray)); have hcz304_4 := celA BK482.out 4 (.slice none 0 0); have hfz304_0 := blk_frozen BK482.out 0; have hfz304_1 := blk_frozen BK482.out 1; have hfz304_2 := blk_frozen BK482.out 2; have hfz304_3 := blk_frozen BK482.out 3; have hfz304_4 := blk_frozen BK482.out 4; obtain ⟨Ao305, co305, eo305⟩ := Kd.R_slice HO480.out; subst eo305) | ((with_reducible refine gate_callee (f := 65) rfl ?_); refine goesA (some 90) Tryz.func65 #[.string a1] ?_; (with_reducible refine (event_Read.calls _ _ _ _ _ _ _ _ _ _ ?side1 A205.out).mono ?_); (case side1 => exact Tabs.below HT.out (bwA)); rintro e w306 ⟨v488, rfl, ho0, hb⟩; refine ⟨_, rfl, ?_⟩; have HO489 := Aside0.mk (Kd.R_lower (Kd.R_new' ho0 (Kd.R_lt (raA (Kd.R_mono (Kd.R_far (p := ⟨gb482, 4, none⟩) (Kd.R_far (p := ⟨gb482, 3, none⟩) (Kd.R_far (p := ⟨gb482, 2, none⟩) (Kd.R_far (p := ⟨gb482, 1, none⟩) (Kd.R_far (p := ⟨gb482, 0, none⟩) (Kd.R_types HO480.out BK482.out (by decide)) (fun _ hk => hk.2) (.int .i64 t474)) (fun _ hk => hk.2) (.int .i64 t475)) (fun _ hk => hk.2) (.int .i64 t476)) (fun _ hk => hk.2) (.string t477)) (fun _ hk => hk.2) (.slice Ao305 t478.length co305)) (fun _ h_ => h_.1))))) (below_size (bwA))); replace HO480 := Aside0.mk (Kd.R_elder' (raA (Kd.R_mono (Kd.R_far (p := ⟨gb482, 4, none⟩) (Kd.R_far (p := ⟨gb482, 3, none⟩) (Kd.R_far (p := ⟨gb482, 2, none⟩) (Kd.R_far (p := ⟨gb482, 1, none⟩) (Kd.R_far (p := ⟨gb482, 0, none⟩) (Kd.R_types HO480.out BK482.out (by decide)) (fun _ hk => hk.2) (.int .i64 t474)) (fun _ hk => hk.2) (.int .i64 t475)) (fun _ hk => hk.2) (.int .i64 t476)) (fun _ hk => hk.2) (.string t477)) (fun _ hk => hk.2) (.slice Ao305 t478.length co305)) (fun _ h_ => h_.1))) (Kd.R_base ho0) hb); replace BK441 := Aside0.mk (blk_below (g := gb441) (o := .cells #[.int .i64 a0_0, .int .i64 a0_1, .int .i64 a0_2, .string a0_3, .slice A0_4 l0_4.length c0_4] 66 (0, 0)) (by (with_reducible repeat (first | refine blk_drewN ?_ _ | refine blk_drew ?_ | refine blk_alloc ?_ _)); refine blk_far ?_ NB441_482.out _; (with_reducible repeat (first | refine blk_drewN ?_ _ | refine blk_drew ?_ | refine blk_alloc ?_ _)); refine blk_far ?_ NB441_482.out _; (with_reducible repeat (first | refine blk_drewN ?_ _ | refine blk_drew ?_ | refine blk_alloc ?_ _)); refine blk_far ?_ NB441_482.out _; (with_reducible repeat (first | refine blk_drewN ?_ _ | refine blk_drew ?_ | refine blk_alloc ?_ _)); refine blk_far ?_ NB441_482.out _; (with_reducible repeat (first | refine blk_drewN ?_ _ | refine blk_drew ?_ | refine blk_alloc ?_ _)); refine blk_far ?_ NB441_482.out _; (with_reducible repeat (first | refine blk_drewN ?_ _ | refine blk_drew ?_ | refine blk_alloc ?_ _)); exact BK441.out) hb); replace BK482 := Aside0.mk (blk_below (g := gb482) (o := .cells #[.int .i64 t474, .int .i64 t475, .int .i64 t476, .string t477, .slice Ao305 t478.length co305] 66 (0, 0)) (by refine blkP (cs := #[.int .i64 t474, .int .i64 t475, .int .i64 t476, .string t477, .slice none 0 0]) ?_ 4 _; refine blkP (cs := #[.int .i64 t474, .int .i64 t475, .int .i64 t476, .string (⟨#[]⟩ : ByteArray), .slice none 0 0]) ?_ 3 _; refine blkP (cs := #[.int .i64 t474, .int .i64 t475, .int .i64 0, .string (⟨#[]⟩ : ByteArray), .slice none 0 0]) ?_ 2 _; refine blkP (cs := #[.int .i64 t474, .int .i64 0, .int .i64 0, .string (⟨#[]⟩ : ByteArray), .slice none 0 0]) ?_ 1 _; refine blkP (cs := #[.int .i64 0, .int .i64 0, .int .i64 0, .string (⟨#[]⟩ : ByteArray), .slice none 0 0]) ?_ 0 _; (with_reducible repeat (first | refine blk_drewN ?_ _ | refine blk_drew ?_ | refine blk_alloc ?_ _)); exact BK482.out) hb); replace HB := Aside0.mk (below_step (bwA) hb); (try clear hb); (try clear ho0)) | ((with_reducible refine gate_dst (N := 14) rfl ?_); (try (refine gate_guard (by rfl) ?_; dsimp only)); refine boxA 14 #[.int .i64 0, .int .i64 0, .int .i64 0, .string (⟨#[]⟩ : ByteArray), .slice none 0 0] 66 ?_; intro gb492 hg w307 hbox hb; have BK492 := Aside0.mk (hbox); have GW492 := Aside0.mk (hgW hg : w.heap.size ≤ gb492); have GE492 := Aside0.mk (hgW hg : w.heap.size ≤ gb492); have NB441_492 := Aside0.mk (hgL hg BK441 : gb441 ≠ gb492); have NB492_441 := Aside0.mk (hgG hg BK441 : gb492 ≠ gb441); have NB482_492 := Aside0.mk (hgL hg BK482 : gb482 ≠ gb492); have NB492_482 := Aside0.mk (hgG hg BK482 : gb492 ≠ gb482); replace HO480 := Aside0.mk (Kd.R_below (raA HO480.out) hb); replace HO489 := Aside0.mk (Kd.R_below (raA HO489.out) hb); replace BK441 := Aside0.mk (bkB BK441 hb); replace BK482 := Aside0.mk (bkB BK482 hb); replace HB := Aside0.mk (below_step (bwA) hb); clear hb hbox hg; have hnb308 := NB492_441.out; have hnc308 := NB441_492.out; have hnb309 := NB492_482.out; have hnc309 := NB482_492.out; have hcz310_0 := celA BK492.out 0 (.int .i64 0); have hcz310_1 := celA BK492.out 1 (.int .i64 0); have hcz310_2 := celA BK492.out 2 (.int .i64 0); have hcz310_3 := celA BK492.out 3 (.string (⟨#[]⟩ : ByteArray)); have hcz310_4 := celA BK492.out 4 (.slice none 0 0); have hfz310_0 := blk_frozen BK492.out 0; have hfz310_1 := blk_frozen BK492.out 1; have hfz310_2 := blk_frozen BK492.out 2; have hfz310_3 := blk_frozen BK492.out 3; have hfz310_4 := blk_frozen BK492.out 4; obtain ⟨Ao311, co311, eo311⟩ := Kd.R_slice HO489.out; subst eo311) | ((with_reducible refine gate_callee (f := 44) rfl ?_); refine goesA (some 94) Tryz.func44 #[] ?_; (with_reducible refine (caduceuslaw06_awake.calls _ _ _ ?side1 A206.out).mono ?_); (case side1 => exact Tabs.below HT.out (bwA)); rintro e w312 ⟨rfl, hb⟩; refine ⟨_, rfl, ?_⟩; replace HO480 := Aside0.mk (Kd.R_below (raA (Kd.R_mono (Kd.R_far (p := ⟨gb492, 4, none⟩) (Kd.R_far (p := ⟨gb492, 3, none⟩) (Kd.R_far (p := ⟨gb492, 2, none⟩) (Kd.R_far (p := ⟨gb492, 1, none⟩) (Kd.R_far (p := ⟨gb492, 0, none⟩) (Kd.R_types HO480.out BK492.out (by decide)) (fun _ hk => hk.2) (.int .i64 t483)) (fun _ hk => hk.2) (.int .i64 t484)) (fun _ hk => hk.2) (.int .i64 t485)) (fun _ hk => hk.2) (.string t486)) (fun _ hk => hk.2) (.slice Ao311 t487.length co311)) (fun _ h_ => h_.1))) hb); replace HO489 := Aside0.mk (Kd.R_below (raA (Kd.R_mono (Kd.R_far (p := ⟨gb492, 4, none⟩) (Kd.R_far (p := ⟨gb492, 3, none⟩) (Kd.R_far (p := ⟨gb492, 2, none⟩) (Kd.R_far (p := ⟨gb492, 1, none⟩) (Kd.R_far (p := ⟨gb492, 0, none⟩) (Kd.R_types HO489.out BK492.out (by decide)) (fun _ hk => hk.2) (.int .i64 t483)) (fun _ hk => hk.2) (.int .i64 t484)) (fun _ hk => hk.2) (.int .i64 t485)) (fun _ hk => hk.2) (.string t486)) (fun _ hk => hk.2) (.slice Ao311 t487.length co311)) (fun _ h_ => h_.1))) hb); replace BK441 := Aside0.mk (blk_below (g := gb441) (o := .cells #[.int .i64 a0_0, .int .i64 a0_1, .int .i64 a0_2, .string a0_3, .slice A0_4 l0_4.length c0_4] 66 (0, 0)) (by (with_reducible repeat (first | refine blk_drewN ?_ _ | refine blk_drew ?_ | refine blk_alloc ?_ _)); refine blk_far ?_ NB441_492.out _; (with_reducible repeat (first | refine blk_drewN ?_ _ | refine blk_drew ?_ | refine blk_alloc ?_ _)); refine blk_far ?_ NB441_492.out _; (with_reducible repeat (first | refine blk_drewN ?_ _ | refine blk_drew ?_ | refine blk_alloc ?_ _)); refine blk_far ?_ NB441_492.out _; (with_reducible repeat (first | refine blk_drewN ?_ _ | refine blk_drew ?_ | refine blk_alloc ?_ _)); refine blk_far ?_ NB441_492.out _; (with_reducible repeat (first | refine blk_drewN ?_ _ | refine blk_drew ?_ | refine blk_alloc ?_ _)); refine blk_far ?_ NB441_492.out _; (with_reducible repeat (first | refine blk_drewN ?_ _ | refine blk_drew ?_ | refine blk_alloc ?_ _)); exact BK441.out) hb); replace BK482 := Aside0.mk (blk_below (g := gb482) (o := .cells #[.int .i64 t474, .int .i64 t475, .int .i64 t476, .string t477, .slice Ao305 t478.length co305] 66 (0, 0)) (by (with_reducible repeat (first | refine blk_drewN ?_ _ | refine blk_drew ?_ | refine blk_alloc ?_ _)); refine blk_far ?_ NB482_492.out _; (with_reducible repeat (first | refine blk_drewN ?_ _ | refine blk_drew ?_ | refine blk_alloc ?_ _)); refine blk_far ?_ NB482_492.out _; (with_reducible repeat (first | refine blk_drewN ?_ _ | refine blk_drew ?_ | refine blk_alloc ?_ _)); refine blk_far ?_ NB482_492.out _; (with_reducible repeat (first | refine blk_drewN ?_ _ | refine blk_drew ?_ | refine blk_alloc ?_ _)); refine blk_far ?_ NB482_492.out _; (with_reducible repeat (first | refine blk_drewN ?_ _ | refine blk_drew ?_ | refine blk_alloc ?_ _)); refine blk_far ?_ NB482_492.out _; (with_reducible repeat (first | refine blk_drewN ?_ _ | refine blk_drew ?_ | refine blk_alloc ?_ _)); exact BK482.out) hb); replace BK492 := Aside0.mk (blk_below (g := gb492) (o := .cells #[.int .i64 t483, .int .i64 t484, .int .i64 t485, .string t486, .slice Ao311 t487.length co311] 66 (0, 0)) (by refine blkP (cs := #[.int .i64 t483, .int .i64 t484, .int .i64 t485, .string t486, .slice none 0 0]) ?_ 4 _; refine blkP (cs := #[.int .i64 t483, .int .i64 t484, .int .i64 t485, .string (⟨#[]⟩ : ByteArray), .slice none 0 0]) ?_ 3 _; refine blkP (cs := #[.int .i64 t483, .int .i64 t484, .int .i64 0, .string (⟨#[]⟩ : ByteArray), .slice none 0 0]) ?_ 2 _; refine blkP (cs := #[.int .i64 t483, .int .i64 0, .int .i64 0, .string (⟨#[]⟩ : ByteArray), .slice none 0 0]) ?_ 1 _; refine blkP (cs := #[.int .i64 0, .int .i64 0, .int .i64 0, .string (⟨#[]⟩ : ByteArray), .slice none 0 0]) ?_ 0 _; (with_reducible repeat (first | refine blk_drewN ?_ _ | refine blk_drew ?_ | refine blk_alloc ?_ _)); exact BK492.out) hb); replace HB := Aside0.mk (below_step (bwA) hb); (try clear hb); apply stopA; (case other => exact True.intro)))
        case _ =>
         first
          | clear M15
            have hcz313_0 := celA BK482.out 0 (.int .i64 t474)
            have hcz313_1 := celA BK482.out 1 (.int .i64 t475)
            have hcz313_2 := celA BK482.out 2 (.int .i64 t476)
            have hcz313_3 := celA BK482.out 3 (.string t477)
            have hcz313_4 := celA BK482.out 4 (.slice Ao305 t478.length co305)
            have hfz313_0 := blk_frozen BK482.out 0
            have hfz313_1 := blk_frozen BK482.out 1
            have hfz313_2 := blk_frozen BK482.out 2
            have hfz313_3 := blk_frozen BK482.out 3
            have hfz313_4 := blk_frozen BK482.out 4
            go_wp2_with (first | (go_at_call 52; (with_reducible refine (event_Show.calls _ _ _ _ _ _ _ _ _ _ ?side1 ?side2 ?side3 A209.out).mono ?_); (case side1 => repeat (first | exact (Kd.R_reads' HO480.out).2.2 | (with_reducible refine Kd.C_alloc ?_ _) | (with_reducible refine Kd.C_drewN ?_ _) | (with_reducible refine Kd.C_drew ?_))); (case side2 => exact (Kd.R_reads' HO480.out).2.1); (case side3 => exact Tabs.below HT.out (bwA)); rintro e w314 ⟨rfl, hb⟩; replace HO480 := Aside0.mk (Kd.R_below (raA HO480.out) hb); replace HO489 := Aside0.mk (Kd.R_below (raA HO489.out) hb); replace BK441 := Aside0.mk (bkB BK441 hb); replace BK482 := Aside0.mk (bkB BK482 hb); replace BK492 := Aside0.mk (bkB BK492 hb); replace HB := Aside0.mk (below_step (bwA) hb); (try clear hb); apply stopA; (case other => exact True.intro)))
            case _ =>
             first
              | clear M16
                have hcz315_0 := celA BK492.out 0 (.int .i64 t483)
                have hcz315_1 := celA BK492.out 1 (.int .i64 t484)
                have hcz315_2 := celA BK492.out 2 (.int .i64 t485)
                have hcz315_3 := celA BK492.out 3 (.string t486)
                have hcz315_4 := celA BK492.out 4 (.slice Ao311 t487.length co311)
                have hfz315_0 := blk_frozen BK492.out 0
                have hfz315_1 := blk_frozen BK492.out 1
                have hfz315_2 := blk_frozen BK492.out 2
                have hfz315_3 := blk_frozen BK492.out 3
                have hfz315_4 := blk_frozen BK492.out 4
                try go_wp2_with (first | (go_at_call 54; (with_reducible refine (event_Text.calls _ _ _ _ _ _ _ _ _ _ ?side1 ?side2 ?side3 A212.out).mono ?_); (case side1 => repeat (first | exact (Kd.R_reads' HO489.out).2.2 | (with_reducible refine Kd.C_alloc ?_ _) | (with_reducible refine Kd.C_drewN ?_ _) | (with_reducible refine Kd.C_drew ?_))); (case side2 => exact (Kd.R_reads' HO489.out).2.1); (case side3 => exact Tabs.below HT.out (bwA)); rintro e w316 ⟨rfl, hb⟩; replace HO480 := Aside0.mk (Kd.R_below (raA HO480.out) hb); replace HO489 := Aside0.mk (Kd.R_below (raA HO489.out) hb); replace BK441 := Aside0.mk (bkB BK441 hb); replace BK482 := Aside0.mk (bkB BK482 hb); replace BK492 := Aside0.mk (bkB BK492 hb); replace HB := Aside0.mk (below_step (bwA) hb); (try clear hb)))
                go_ret
                exact ⟨endA, bwA⟩
              | clear M17
                (try go_wp2_with (fail))
                go_ret
                exact ⟨endA, bwA⟩
          | clear M18
            have hcz313_0 := celA BK492.out 0 (.int .i64 t483)
            have hcz313_1 := celA BK492.out 1 (.int .i64 t484)
            have hcz313_2 := celA BK492.out 2 (.int .i64 t485)
            have hcz313_3 := celA BK492.out 3 (.string t486)
            have hcz313_4 := celA BK492.out 4 (.slice Ao311 t487.length co311)
            have hfz313_0 := blk_frozen BK492.out 0
            have hfz313_1 := blk_frozen BK492.out 1
            have hfz313_2 := blk_frozen BK492.out 2
            have hfz313_3 := blk_frozen BK492.out 3
            have hfz313_4 := blk_frozen BK492.out 4
            try go_wp2_with (first | (go_at_call 54; (with_reducible refine (event_Text.calls _ _ _ _ _ _ _ _ _ _ ?side1 ?side2 ?side3 A210.out).mono ?_); (case side1 => repeat (first | exact (Kd.R_reads' HO489.out).2.2 | (with_reducible refine Kd.C_alloc ?_ _) | (with_reducible refine Kd.C_drewN ?_ _) | (with_reducible refine Kd.C_drew ?_))); (case side2 => exact (Kd.R_reads' HO489.out).2.1); (case side3 => exact Tabs.below HT.out (bwA)); rintro e w314 ⟨rfl, hb⟩; replace HO480 := Aside0.mk (Kd.R_below (raA HO480.out) hb); replace HO489 := Aside0.mk (Kd.R_below (raA HO489.out) hb); replace BK441 := Aside0.mk (bkB BK441 hb); replace BK482 := Aside0.mk (bkB BK482 hb); replace BK492 := Aside0.mk (bkB BK492 hb); replace HB := Aside0.mk (below_step (bwA) hb); (try clear hb)))
            go_ret
            exact ⟨endA, bwA⟩
          | clear M19
            (try go_wp2_with (fail))
            go_ret
            exact ⟨endA, bwA⟩
end Go.Proofs.YtkdndabpaajkaaaGreatDoor.A
