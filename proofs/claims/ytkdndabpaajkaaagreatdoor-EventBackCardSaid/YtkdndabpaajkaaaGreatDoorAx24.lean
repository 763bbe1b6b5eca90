-- By drv.py, the session's own driver round the kit's print: the machine's side of the laws, function by function. Not trusted: Lean checks it.
import Derived.Test.YtkdndabpaajkaaaGreatDoorAx0
import Derived.Test.YtkdndabpaajkaaaGreatDoorAx11
import Derived.Test.YtkdndabpaajkaaaGreatDoorAx14
import Derived.Test.YtkdndabpaajkaaaGreatDoorAx15
import Derived.Test.YtkdndabpaajkaaaGreatDoorAx16
import Derived.Test.YtkdndabpaajkaaaGreatDoorAx23
namespace Go.Proofs.YtkdndabpaajkaaaGreatDoor.A
open Go.RowKit Go.Proofs.YtkdndabpaajkaaaGreatDoorW.PrintWords Go.Proofs.YtkdndabpaajkaaaGreatDoorW.PrintLast Go.Proofs.YtkdndabpaajkaaaGreatDoorW.PrintMore
attribute [local go_sem] max2_int min2_int max_two min_two max_three min_three max_four min_four   -- for this text's walks alone
set_option linter.unusedVariables false
set_option linter.unusedSimpArgs false

/-! ### event_Parse: function 64 -/
def event_Parse.f (k : Nat) (a0 : ByteArray) : Option (Int × Int × Int × ByteArray × (List (S76)) × Int) := (strings_Cut.f a0 (⟨#[32]⟩ : ByteArray)).bind fun bt273 => ((event_ParseID.f k bt273.1).bind fun bt276 => (if bt276.2.2.2 = 0 then ((strings_Cut.f bt273.2.1 (⟨#[32]⟩ : ByteArray)).bind fun bt281 => (if bt281.2.2 = true then (if 0 ≤ (bt281.1.size : Int) then (if (bt281.1.size : Int) ≤ (bt273.2.1.size : Int) then ((event_attrs.f k (bt273.2.1.extract ((bt281.1.size : Int) : Int).toNat bt273.2.1.size)).bind fun t285 => (if a0.toList = ([] : List UInt8) then (some (0, 0, 0, (⟨#[]⟩ : ByteArray), ([] : List (S76)), 3)) else ((event_Show.f k bt276.1 bt276.2.1 bt276.2.2.1 bt281.1 t285).bind fun t288 => (if t288.toList = a0.toList then (some (bt276.1, bt276.2.1, bt276.2.2.1, bt281.1, t285, 0)) else (some (0, 0, 0, (⟨#[]⟩ : ByteArray), ([] : List (S76)), 3)))))) else (none)) else (none)) else (if a0.toList = ([] : List UInt8) then (some (0, 0, 0, (⟨#[]⟩ : ByteArray), ([] : List (S76)), 3)) else ((event_Show.f k bt276.1 bt276.2.1 bt276.2.2.1 bt281.1 ([] : List (S76))).bind fun t289 => (if t289.toList = a0.toList then (some (bt276.1, bt276.2.1, bt276.2.2.1, bt281.1, ([] : List (S76)), 0)) else (some (0, 0, 0, (⟨#[]⟩ : ByteArray), ([] : List (S76)), 3))))))) else (some (0, 0, 0, (⟨#[]⟩ : ByteArray), ([] : List (S76)), bt276.2.2.2))))
theorem event_Parse.mono : ∀ a0 k, LeO (event_Parse.f k a0) (event_Parse.f (k + 1) a0) := by
 intro a0 k
 unfold event_Parse.f
 repeat' (with_reducible first | exact event_ParseID.mono _ _ | exact event_Show.mono _ _ _ _ _ _ | exact event_attrs.mono _ _ | exact LeO.refl _ | exact LeO.none _ | refine LeO.ite ?_ ?_ | refine LeO.bind ?_ (fun _ => ?_))
set_option maxHeartbeats 8000000 in
set_option maxRecDepth 100000 in
theorem event_Parse.calls (k : Nat) (a0 : ByteArray) (r1 : Int) (r2 : Int) (r3 : Int) (r4 : ByteArray) (r5 : List (S76)) (r6 : Int) (w : World) (hT : Tabs w) (h : event_Parse.f k a0 = some (r1, r2, r3, r4, r5, r6)) :
  Calls Tryz.prog 64 #[.string a0] w fun e w' => ∃ v4_ : Value, e = .returned (.tuple #[.agg #[.int .i64 r1, .int .i64 r2, .int .i64 r3, .string r4, v4_], .int .i64 r6]) ∧ Kd.R k76 76 w' w.heap.size (fun _ => True) v4_ r5 ∧ Below w.heap.size w w' := by
 have hu66 := Tryz.underlying66
 have hu25 := Tryz.underlying25
 have HB := Aside0.mk (Below.refl w.heap.size w)
 unfold event_Parse.f at h
 have H := h
 clear h
 have HT := Aside0.mk hT
 clear hT
 replace H := Option.bind_eq_some_iff.mp H
 obtain ⟨⟨t273, t274, t275⟩, A20, H⟩ := H
 replace H : ((event_ParseID.f k t273).bind fun bt276 => (if bt276.2.2.2 = 0 then ((strings_Cut.f t274 (⟨#[32]⟩ : ByteArray)).bind fun bt281 => (if bt281.2.2 = true then (if 0 ≤ (bt281.1.size : Int) then (if (bt281.1.size : Int) ≤ (t274.size : Int) then ((event_attrs.f k (t274.extract ((bt281.1.size : Int) : Int).toNat t274.size)).bind fun t285 => (if a0.toList = ([] : List UInt8) then (some (0, 0, 0, (⟨#[]⟩ : ByteArray), ([] : List (S76)), 3)) else ((event_Show.f k bt276.1 bt276.2.1 bt276.2.2.1 bt281.1 t285).bind fun t288 => (if t288.toList = a0.toList then (some (bt276.1, bt276.2.1, bt276.2.2.1, bt281.1, t285, 0)) else (some (0, 0, 0, (⟨#[]⟩ : ByteArray), ([] : List (S76)), 3)))))) else (none)) else (none)) else (if a0.toList = ([] : List UInt8) then (some (0, 0, 0, (⟨#[]⟩ : ByteArray), ([] : List (S76)), 3)) else ((event_Show.f k bt276.1 bt276.2.1 bt276.2.2.1 bt281.1 ([] : List (S76))).bind fun t289 => (if t289.toList = a0.toList then (some (bt276.1, bt276.2.1, bt276.2.2.1, bt281.1, ([] : List (S76)), 0)) else (some (0, 0, 0, (⟨#[]⟩ : ByteArray), ([] : List (S76)), 3))))))) else (some (0, 0, 0, (⟨#[]⟩ : ByteArray), ([] : List (S76)), bt276.2.2.2)))) = some (r1, r2, r3, r4, r5, r6) := H
 have A2 := Aside0.mk A20
 clear A20
 replace H := Option.bind_eq_some_iff.mp H
 obtain ⟨⟨t276, t277, t278, t279⟩, A30, H⟩ := H
 replace H : (if t279 = 0 then ((strings_Cut.f t274 (⟨#[32]⟩ : ByteArray)).bind fun bt281 => (if bt281.2.2 = true then (if 0 ≤ (bt281.1.size : Int) then (if (bt281.1.size : Int) ≤ (t274.size : Int) then ((event_attrs.f k (t274.extract ((bt281.1.size : Int) : Int).toNat t274.size)).bind fun t285 => (if a0.toList = ([] : List UInt8) then (some (0, 0, 0, (⟨#[]⟩ : ByteArray), ([] : List (S76)), 3)) else ((event_Show.f k t276 t277 t278 bt281.1 t285).bind fun t288 => (if t288.toList = a0.toList then (some (t276, t277, t278, bt281.1, t285, 0)) else (some (0, 0, 0, (⟨#[]⟩ : ByteArray), ([] : List (S76)), 3)))))) else (none)) else (none)) else (if a0.toList = ([] : List UInt8) then (some (0, 0, 0, (⟨#[]⟩ : ByteArray), ([] : List (S76)), 3)) else ((event_Show.f k t276 t277 t278 bt281.1 ([] : List (S76))).bind fun t289 => (if t289.toList = a0.toList then (some (t276, t277, t278, bt281.1, ([] : List (S76)), 0)) else (some (0, 0, 0, (⟨#[]⟩ : ByteArray), ([] : List (S76)), 3))))))) else (some (0, 0, 0, (⟨#[]⟩ : ByteArray), ([] : List (S76)), t279))) = some (r1, r2, r3, r4, r5, r6) := H
 have A3 := Aside0.mk A30
 clear A30
 revert H; refine itR ?L12p ?L12n
 case' L12p =>
  intro c4 H
  obtain ⟨c4b0, c4b1⟩ := fcE c4
  clear c4
  replace H := bnA H
  obtain ⟨⟨t281, t282, t283⟩, A5, H⟩ := H
  dsimp only at H
  revert H; refine itR ?L13p ?L13n
  case' L13p =>
   intro c6 H
   subst c6
   replace H := itN H
   obtain ⟨c7, H⟩ := H
   have c7b0 := eq_true c7
   have c7b1 := decide_eq_true c7
   clear c7
   replace H := itN H
   obtain ⟨c8, H⟩ := H
   have c8b0 := eq_true c8
   have c8b1 := decide_eq_true c8
   clear c8
   replace H := bnA H
   obtain ⟨t285, A9, H⟩ := H
   revert H; refine itR ?L14p ?L14n
   case' L14p =>
    intro c10 H
    obtain ⟨c10b0, c10b1⟩ := fcE c10
    clear c10
    simp only [Option.some.injEq, Prod.mk.injEq] at H
    obtain ⟨rfl, rfl, rfl, rfl, rfl, rfl⟩ := H
    have M1 := True.intro
    have M2 := True.intro
    have M3 := True.intro
   case' L14n =>
    intro c10 H
    obtain ⟨c10b0, c10b1⟩ := fcN c10
    replace H := bnA H
    obtain ⟨t288, A11, H⟩ := H
    revert H; refine itR ?L15p ?L15n
    case' L15p =>
     intro c12 H
     obtain ⟨c12b0, c12b1⟩ := fcE c12
     clear c12
     simp only [Option.some.injEq, Prod.mk.injEq] at H
     obtain ⟨rfl, rfl, rfl, rfl, rfl, rfl⟩ := H
     have M1 := True.intro
     have M2 := True.intro
     have M4 := True.intro
     have M5 := True.intro
    case' L15n =>
     intro c12 H
     obtain ⟨c12b0, c12b1⟩ := fcN c12
     simp only [Option.some.injEq, Prod.mk.injEq] at H
     obtain ⟨rfl, rfl, rfl, rfl, rfl, rfl⟩ := H
     have M1 := True.intro
     have M2 := True.intro
     have M4 := True.intro
     have M6 := True.intro
  case' L13n =>
   intro c6 H
   replace c6 := Bool.eq_false_iff.mpr c6
   subst c6
   revert H; refine itR ?L16p ?L16n
   case' L16p =>
    intro c7 H
    obtain ⟨c7b0, c7b1⟩ := fcE c7
    clear c7
    simp only [Option.some.injEq, Prod.mk.injEq] at H
    obtain ⟨rfl, rfl, rfl, rfl, rfl, rfl⟩ := H
    have M1 := True.intro
    have M7 := True.intro
   case' L16n =>
    intro c7 H
    obtain ⟨c7b0, c7b1⟩ := fcN c7
    replace H := bnA H
    obtain ⟨t289, A8, H⟩ := H
    revert H; refine itR ?L17p ?L17n
    case' L17p =>
     intro c9 H
     obtain ⟨c9b0, c9b1⟩ := fcE c9
     clear c9
     simp only [Option.some.injEq, Prod.mk.injEq] at H
     obtain ⟨rfl, rfl, rfl, rfl, rfl, rfl⟩ := H
     have M1 := True.intro
     have M8 := True.intro
     have M9 := True.intro
    case' L17n =>
     intro c9 H
     obtain ⟨c9b0, c9b1⟩ := fcN c9
     simp only [Option.some.injEq, Prod.mk.injEq] at H
     obtain ⟨rfl, rfl, rfl, rfl, rfl, rfl⟩ := H
     have M1 := True.intro
     have M8 := True.intro
     have M10 := True.intro
 case' L12n =>
  intro c4 H
  obtain ⟨c4b0, c4b1⟩ := fcN c4
  simp only [Option.some.injEq, Prod.mk.injEq] at H
  obtain ⟨rfl, rfl, rfl, rfl, rfl, rfl⟩ := H
  have M11 := True.intro
 all_goals
  case _ =>
   go_enter Tryz.func64, Tryz.ntmps64
   go_wp2_with (first | ((with_reducible refine gate_dst (N := 2) rfl ?_); refine boxA 2 #[.int .i64 0, .int .i64 0, .int .i64 0, .string (⟨#[]⟩ : ByteArray), .slice none 0 0] 66 ?_; intro gb272 hg w101 hbox hb; have BK272 := Aside0.mk (hbox); have GW272 := Aside0.mk (hgW hg : w.heap.size ≤ gb272); have GE272 := Aside0.mk (hgW hg : w.heap.size ≤ gb272); replace HB := Aside0.mk (below_step (bwA) hb); clear hb hbox hg) | ((with_reducible refine gate_callee (f := 132) rfl ?_); refine goesA (some 15) Tryz.func132 #[.string a0, .string (⟨#[32]⟩ : ByteArray)] ?_; (with_reducible refine (strings_Cut.calls _ _ _ _ _ _ ?side1 A2.out).mono ?_); (case side1 => exact Tabs.below HT.out (bwA)); rintro e w' ⟨rfl, ⟨nd, rfl⟩⟩; refine ⟨_, rfl, ?_⟩; (try (rw [drewN_self w101]; generalize hq_ : World.drewN w101 _ = w101; have n0_ : Aside0 (w101.heap[gb272]? = some (.cells #[.int .i64 0, .int .i64 0, .int .i64 0, .string (⟨#[]⟩ : ByteArray), .slice none 0 0] 66 (0, 0))) := ⟨by rw [← hq_]; exact blkA⟩; have n1_ : Aside0 (Below w.heap.size w w101) := ⟨by rw [← hq_]; exact (bwA)⟩; clear BK272 HB hq_; have BK272 := n0_; have HB := n1_; clear n0_ n1_))) | ((with_reducible refine gate_callee (f := 66) rfl ?_); refine goesA (some 21) Tryz.func66 #[.string t273] ?_; (with_reducible refine (event_ParseID.calls _ _ _ _ _ _ _ ?side1 A3.out).mono ?_); (case side1 => exact Tabs.below HT.out (bwA)); rintro e w102 ⟨rfl, hb⟩; refine ⟨_, rfl, ?_⟩; replace BK272 := Aside0.mk (bkB BK272 hb); replace HB := Aside0.mk (below_step (bwA) hb); (try clear hb)) | ((with_reducible refine gate_dst (N := 7) rfl ?_); refine boxA 7 #[.int .i64 0, .int .i64 0, .int .i64 0] 25 ?_; intro gb280 hg w103 hbox hb; have BK280 := Aside0.mk (hbox); have GW280 := Aside0.mk (hgW hg : w.heap.size ≤ gb280); have GE280 := Aside0.mk (hgW hg : w.heap.size ≤ gb280); have NB272_280 := Aside0.mk (hgL hg BK272 : gb272 ≠ gb280); have NB280_272 := Aside0.mk (hgG hg BK272 : gb280 ≠ gb272); replace BK272 := Aside0.mk (bkB BK272 hb); replace HB := Aside0.mk (below_step (bwA) hb); clear hb hbox hg; have hnb104 := NB280_272.out; have hnc104 := NB272_280.out; have hcz105_0 := celA BK280.out 0 (.int .i64 0); have hcz105_1 := celA BK280.out 1 (.int .i64 0); have hcz105_2 := celA BK280.out 2 (.int .i64 0); have hfz105_0 := blk_frozen BK280.out 0; have hfz105_1 := blk_frozen BK280.out 1; have hfz105_2 := blk_frozen BK280.out 2; apply stopA; (case other => exact True.intro)))
   case _ =>
    first
     | clear M1
       go_wp2_with (first | ((with_reducible refine gate_callee (f := 132) rfl ?_); refine goesA (some 30) Tryz.func132 #[.string t274, .string (⟨#[32]⟩ : ByteArray)] ?_; (with_reducible refine (strings_Cut.calls _ _ _ _ _ _ ?side1 A5.out).mono ?_); (case side1 => exact Tabs.below HT.out (bwA)); rintro e w' ⟨rfl, ⟨nd, rfl⟩⟩; refine ⟨_, rfl, ?_⟩) | ((with_reducible refine gate_dst (N := 12) rfl ?_); refine boxA 12 #[.int .i64 0, .int .i64 0, .int .i64 0, .string (⟨#[]⟩ : ByteArray), .slice none 0 0] 66 ?_; intro gb284 hg w106 hbox hb; have BK284 := Aside0.mk (hbox); have GW284 := Aside0.mk (hgW hg : w.heap.size ≤ gb284); have GE284 := Aside0.mk (hgW hg : w.heap.size ≤ gb284); have NB272_284 := Aside0.mk ((by rw [hg]; exact Nat.ne_of_lt (blk_lt (g := gb272) (o := .cells #[.int .i64 0, .int .i64 0, .int .i64 0, .string (⟨#[]⟩ : ByteArray), .slice none 0 0] 66 (0, 0)) (by (with_reducible repeat (first | refine blk_drewN ?_ _ | refine blk_drew ?_ | refine blk_alloc ?_ _)); refine blk_far ?_ NB272_280.out _; (with_reducible repeat (first | refine blk_drewN ?_ _ | refine blk_drew ?_ | refine blk_alloc ?_ _)); refine blk_far ?_ NB272_280.out _; (with_reducible repeat (first | refine blk_drewN ?_ _ | refine blk_drew ?_ | refine blk_alloc ?_ _)); refine blk_far ?_ NB272_280.out _; (with_reducible repeat (first | refine blk_drewN ?_ _ | refine blk_drew ?_ | refine blk_alloc ?_ _)); exact BK272.out)) : gb272 ≠ gb284)); have NB284_272 := Aside0.mk ((by rw [hg]; exact Nat.ne_of_gt (blk_lt (g := gb272) (o := .cells #[.int .i64 0, .int .i64 0, .int .i64 0, .string (⟨#[]⟩ : ByteArray), .slice none 0 0] 66 (0, 0)) (by (with_reducible repeat (first | refine blk_drewN ?_ _ | refine blk_drew ?_ | refine blk_alloc ?_ _)); refine blk_far ?_ NB272_280.out _; (with_reducible repeat (first | refine blk_drewN ?_ _ | refine blk_drew ?_ | refine blk_alloc ?_ _)); refine blk_far ?_ NB272_280.out _; (with_reducible repeat (first | refine blk_drewN ?_ _ | refine blk_drew ?_ | refine blk_alloc ?_ _)); refine blk_far ?_ NB272_280.out _; (with_reducible repeat (first | refine blk_drewN ?_ _ | refine blk_drew ?_ | refine blk_alloc ?_ _)); exact BK272.out)) : gb284 ≠ gb272)); have NB280_284 := Aside0.mk ((by rw [hg]; exact Nat.ne_of_lt (blk_lt (g := gb280) (o := .cells #[.int .i64 t276, .int .i64 t277, .int .i64 t278] 25 (0, 0)) (by refine blkP (cs := #[.int .i64 t276, .int .i64 t277, .int .i64 0]) ?_ 2 _; refine blkP (cs := #[.int .i64 t276, .int .i64 0, .int .i64 0]) ?_ 1 _; refine blkP (cs := #[.int .i64 0, .int .i64 0, .int .i64 0]) ?_ 0 _; (with_reducible repeat (first | refine blk_drewN ?_ _ | refine blk_drew ?_ | refine blk_alloc ?_ _)); exact BK280.out)) : gb280 ≠ gb284)); have NB284_280 := Aside0.mk ((by rw [hg]; exact Nat.ne_of_gt (blk_lt (g := gb280) (o := .cells #[.int .i64 t276, .int .i64 t277, .int .i64 t278] 25 (0, 0)) (by refine blkP (cs := #[.int .i64 t276, .int .i64 t277, .int .i64 0]) ?_ 2 _; refine blkP (cs := #[.int .i64 t276, .int .i64 0, .int .i64 0]) ?_ 1 _; refine blkP (cs := #[.int .i64 0, .int .i64 0, .int .i64 0]) ?_ 0 _; (with_reducible repeat (first | refine blk_drewN ?_ _ | refine blk_drew ?_ | refine blk_alloc ?_ _)); exact BK280.out)) : gb284 ≠ gb280)); replace BK272 := Aside0.mk (blk_below (g := gb272) (o := .cells #[.int .i64 0, .int .i64 0, .int .i64 0, .string (⟨#[]⟩ : ByteArray), .slice none 0 0] 66 (0, 0)) (by (with_reducible repeat (first | refine blk_drewN ?_ _ | refine blk_drew ?_ | refine blk_alloc ?_ _)); refine blk_far ?_ NB272_280.out _; (with_reducible repeat (first | refine blk_drewN ?_ _ | refine blk_drew ?_ | refine blk_alloc ?_ _)); refine blk_far ?_ NB272_280.out _; (with_reducible repeat (first | refine blk_drewN ?_ _ | refine blk_drew ?_ | refine blk_alloc ?_ _)); refine blk_far ?_ NB272_280.out _; (with_reducible repeat (first | refine blk_drewN ?_ _ | refine blk_drew ?_ | refine blk_alloc ?_ _)); exact BK272.out) hb); replace BK280 := Aside0.mk (blk_below (g := gb280) (o := .cells #[.int .i64 t276, .int .i64 t277, .int .i64 t278] 25 (0, 0)) (by refine blkP (cs := #[.int .i64 t276, .int .i64 t277, .int .i64 0]) ?_ 2 _; refine blkP (cs := #[.int .i64 t276, .int .i64 0, .int .i64 0]) ?_ 1 _; refine blkP (cs := #[.int .i64 0, .int .i64 0, .int .i64 0]) ?_ 0 _; (with_reducible repeat (first | refine blk_drewN ?_ _ | refine blk_drew ?_ | refine blk_alloc ?_ _)); exact BK280.out) hb); replace HB := Aside0.mk (below_step (bwA) hb); clear hb hbox hg; have hnb107 := NB284_272.out; have hnc107 := NB272_284.out; have hnb108 := NB284_280.out; have hnc108 := NB280_284.out; have hcz109_0 := celA BK284.out 0 (.int .i64 0); have hcz109_1 := celA BK284.out 1 (.int .i64 0); have hcz109_2 := celA BK284.out 2 (.int .i64 0); have hcz109_3 := celA BK284.out 3 (.string (⟨#[]⟩ : ByteArray)); have hcz109_4 := celA BK284.out 4 (.slice none 0 0); have hfz109_0 := blk_frozen BK284.out 0; have hfz109_1 := blk_frozen BK284.out 1; have hfz109_2 := blk_frozen BK284.out 2; have hfz109_3 := blk_frozen BK284.out 3; have hfz109_4 := blk_frozen BK284.out 4; apply stopA; (case other => exact True.intro)))
       case _ =>
        first
         | clear M2
           go_wp2_with (first | ((with_reducible refine gate_callee (f := 133) rfl ?_); refine goesA (some 42) Tryz.func133 #[.string (t274.extract ((t281.size : Int) : Int).toNat t274.size)] ?_; (with_reducible refine (event_attrs.calls _ _ _ _ ?side1 A9.out).mono ?_); (case side1 => exact Tabs.below HT.out (bwA)); rintro e w110 ⟨v286, rfl, ho0, hb⟩; refine ⟨_, rfl, ?_⟩; have HO287 := Aside0.mk (Kd.R_lower ho0 (below_size (bwA))); replace BK272 := Aside0.mk (blk_below (g := gb272) (o := .cells #[.int .i64 0, .int .i64 0, .int .i64 0, .string (⟨#[]⟩ : ByteArray), .slice none 0 0] 66 (0, 0)) (by (with_reducible repeat (first | refine blk_drewN ?_ _ | refine blk_drew ?_ | refine blk_alloc ?_ _)); refine blk_far ?_ NB272_284.out _; (with_reducible repeat (first | refine blk_drewN ?_ _ | refine blk_drew ?_ | refine blk_alloc ?_ _)); refine blk_far ?_ NB272_284.out _; (with_reducible repeat (first | refine blk_drewN ?_ _ | refine blk_drew ?_ | refine blk_alloc ?_ _)); refine blk_far ?_ NB272_284.out _; (with_reducible repeat (first | refine blk_drewN ?_ _ | refine blk_drew ?_ | refine blk_alloc ?_ _)); refine blk_far ?_ NB272_284.out _; (with_reducible repeat (first | refine blk_drewN ?_ _ | refine blk_drew ?_ | refine blk_alloc ?_ _)); refine blk_far ?_ NB272_284.out _; (with_reducible repeat (first | refine blk_drewN ?_ _ | refine blk_drew ?_ | refine blk_alloc ?_ _)); exact BK272.out) hb); replace BK280 := Aside0.mk (blk_below (g := gb280) (o := .cells #[.int .i64 t276, .int .i64 t277, .int .i64 t278] 25 (0, 0)) (by (with_reducible repeat (first | refine blk_drewN ?_ _ | refine blk_drew ?_ | refine blk_alloc ?_ _)); refine blk_far ?_ NB280_284.out _; (with_reducible repeat (first | refine blk_drewN ?_ _ | refine blk_drew ?_ | refine blk_alloc ?_ _)); refine blk_far ?_ NB280_284.out _; (with_reducible repeat (first | refine blk_drewN ?_ _ | refine blk_drew ?_ | refine blk_alloc ?_ _)); refine blk_far ?_ NB280_284.out _; (with_reducible repeat (first | refine blk_drewN ?_ _ | refine blk_drew ?_ | refine blk_alloc ?_ _)); refine blk_far ?_ NB280_284.out _; (with_reducible repeat (first | refine blk_drewN ?_ _ | refine blk_drew ?_ | refine blk_alloc ?_ _)); refine blk_far ?_ NB280_284.out _; (with_reducible repeat (first | refine blk_drewN ?_ _ | refine blk_drew ?_ | refine blk_alloc ?_ _)); exact BK280.out) hb); replace BK284 := Aside0.mk (blk_below (g := gb284) (o := .cells #[.int .i64 t276, .int .i64 t277, .int .i64 t278, .string t281, .slice none 0 0] 66 (0, 0)) (by refine blkP (cs := #[.int .i64 t276, .int .i64 t277, .int .i64 t278, .string t281, .slice none 0 0]) ?_ 4 _; refine blkP (cs := #[.int .i64 t276, .int .i64 t277, .int .i64 t278, .string (⟨#[]⟩ : ByteArray), .slice none 0 0]) ?_ 3 _; refine blkP (cs := #[.int .i64 t276, .int .i64 t277, .int .i64 0, .string (⟨#[]⟩ : ByteArray), .slice none 0 0]) ?_ 2 _; refine blkP (cs := #[.int .i64 t276, .int .i64 0, .int .i64 0, .string (⟨#[]⟩ : ByteArray), .slice none 0 0]) ?_ 1 _; refine blkP (cs := #[.int .i64 0, .int .i64 0, .int .i64 0, .string (⟨#[]⟩ : ByteArray), .slice none 0 0]) ?_ 0 _; (with_reducible repeat (first | refine blk_drewN ?_ _ | refine blk_drew ?_ | refine blk_alloc ?_ _)); exact BK284.out) hb); replace HB := Aside0.mk (below_step (bwA) hb); (try clear hb); (try clear ho0); obtain ⟨Ao111, co111, eo111⟩ := Kd.R_slice HO287.out; subst eo111; have hcz112_0 := celA BK284.out 0 (.int .i64 t276); have hcz112_1 := celA BK284.out 1 (.int .i64 t277); have hcz112_2 := celA BK284.out 2 (.int .i64 t278); have hcz112_3 := celA BK284.out 3 (.string t281); have hcz112_4 := celA BK284.out 4 (.slice none 0 0); have hfz112_0 := blk_frozen BK284.out 0; have hfz112_1 := blk_frozen BK284.out 1; have hfz112_2 := blk_frozen BK284.out 2; have hfz112_3 := blk_frozen BK284.out 3; have hfz112_4 := blk_frozen BK284.out 4; apply stopA; (case other => exact True.intro)))
           case _ =>
            first
             | clear M3
               have hcz113_0 := celA BK272.out 0 (.int .i64 0)
               have hcz113_1 := celA BK272.out 1 (.int .i64 0)
               have hcz113_2 := celA BK272.out 2 (.int .i64 0)
               have hcz113_3 := celA BK272.out 3 (.string (⟨#[]⟩ : ByteArray))
               have hcz113_4 := celA BK272.out 4 (.slice none 0 0)
               have hfz113_0 := blk_frozen BK272.out 0
               have hfz113_1 := blk_frozen BK272.out 1
               have hfz113_2 := blk_frozen BK272.out 2
               have hfz113_3 := blk_frozen BK272.out 3
               have hfz113_4 := blk_frozen BK272.out 4
               (try go_wp2_with (fail))
               refine bodyPost_ret (results_ct rfl _ _ gb272 66 #[.int .i64 0, .int .i64 0, .int .i64 0, .string (⟨#[]⟩ : ByteArray), .slice none 0 0] (0, 0) _ rfl (by refine blkP (cs := #[.int .i64 0, .int .i64 0, .int .i64 0, .string (⟨#[]⟩ : ByteArray), .slice none 0 0]) ?_ 4 _; refine blkP (cs := #[.int .i64 0, .int .i64 0, .int .i64 0, .string (⟨#[]⟩ : ByteArray), .slice none 0 0]) ?_ 3 _; refine blkP (cs := #[.int .i64 0, .int .i64 0, .int .i64 0, .string (⟨#[]⟩ : ByteArray), .slice none 0 0]) ?_ 2 _; refine blkP (cs := #[.int .i64 0, .int .i64 0, .int .i64 0, .string (⟨#[]⟩ : ByteArray), .slice none 0 0]) ?_ 1 _; refine blkP (cs := #[.int .i64 0, .int .i64 0, .int .i64 0, .string (⟨#[]⟩ : ByteArray), .slice none 0 0]) ?_ 0 _; (with_reducible repeat (first | refine blk_drewN ?_ _ | refine blk_drew ?_ | refine blk_alloc ?_ _)); refine blk_far ?_ NB272_284.out _; (with_reducible repeat (first | refine blk_drewN ?_ _ | refine blk_drew ?_ | refine blk_alloc ?_ _)); exact BK272.out) Tryz.underlying66 rfl (by kernel_rfl)) rfl ?_
               exact ⟨_, endA, by first | exact Kd.R_nil _ _ _ _ _ | exact Kd.N_nil _ _ _ _ _ | exact Kd.V_nil _ _ _ _ _ | exact Kd.Q_nil _ _ _ _ _ | exact Kd.S_nil _ _ _ _ _, bwA⟩
             | clear M4
               go_wp2_with (first | (go_at_call 52; (with_reducible refine (event_Show.calls _ _ _ _ _ _ _ _ _ _ ?side1 ?side2 ?side3 A11.out).mono ?_); (case side1 => refine (Kd.R_reads' (e := 76) (base := w.heap.size) (ok := fun k_ => True) (n := t285.length) (c := co111) ?_).2.2; exact (raA (Kd.R_mono (Kd.R_far (p := ⟨gb284, 4, none⟩) (Kd.R_types HO287.out BK284.out (by decide)) (fun _ hk => hk.2) (.slice Ao111 t285.length co111)) (fun _ h_ => h_.1)))); (case side2 => exact (Kd.R_reads' HO287.out).2.1); (case side3 => exact Tabs.below HT.out (bwA)); rintro e w113 ⟨rfl, hb⟩; replace HO287 := Aside0.mk (Kd.R_below (raA (Kd.R_mono (Kd.R_far (p := ⟨gb284, 4, none⟩) (Kd.R_types HO287.out BK284.out (by decide)) (fun _ hk => hk.2) (.slice Ao111 t285.length co111)) (fun _ h_ => h_.1))) hb); replace BK272 := Aside0.mk (blk_below (g := gb272) (o := .cells #[.int .i64 0, .int .i64 0, .int .i64 0, .string (⟨#[]⟩ : ByteArray), .slice none 0 0] 66 (0, 0)) (by (with_reducible repeat (first | refine blk_drewN ?_ _ | refine blk_drew ?_ | refine blk_alloc ?_ _)); refine blk_far ?_ NB272_284.out _; (with_reducible repeat (first | refine blk_drewN ?_ _ | refine blk_drew ?_ | refine blk_alloc ?_ _)); exact BK272.out) hb); replace BK280 := Aside0.mk (blk_below (g := gb280) (o := .cells #[.int .i64 t276, .int .i64 t277, .int .i64 t278] 25 (0, 0)) (by (with_reducible repeat (first | refine blk_drewN ?_ _ | refine blk_drew ?_ | refine blk_alloc ?_ _)); refine blk_far ?_ NB280_284.out _; (with_reducible repeat (first | refine blk_drewN ?_ _ | refine blk_drew ?_ | refine blk_alloc ?_ _)); exact BK280.out) hb); replace BK284 := Aside0.mk (blk_below (g := gb284) (o := .cells #[.int .i64 t276, .int .i64 t277, .int .i64 t278, .string t281, .slice Ao111 t285.length co111] 66 (0, 0)) (by refine blkP (cs := #[.int .i64 t276, .int .i64 t277, .int .i64 t278, .string t281, .slice none 0 0]) ?_ 4 _; (with_reducible repeat (first | refine blk_drewN ?_ _ | refine blk_drew ?_ | refine blk_alloc ?_ _)); exact BK284.out) hb); replace HB := Aside0.mk (below_step (bwA) hb); (try clear hb); apply stopA; (case other => exact True.intro)))
               case _ =>
                first
                 | clear M5
                   have hcz114_0 := celA BK284.out 0 (.int .i64 t276)
                   have hcz114_1 := celA BK284.out 1 (.int .i64 t277)
                   have hcz114_2 := celA BK284.out 2 (.int .i64 t278)
                   have hcz114_3 := celA BK284.out 3 (.string t281)
                   have hcz114_4 := celA BK284.out 4 (.slice Ao111 t285.length co111)
                   have hfz114_0 := blk_frozen BK284.out 0
                   have hfz114_1 := blk_frozen BK284.out 1
                   have hfz114_2 := blk_frozen BK284.out 2
                   have hfz114_3 := blk_frozen BK284.out 3
                   have hfz114_4 := blk_frozen BK284.out 4
                   have hcz115_0 := celA BK272.out 0 (.int .i64 0)
                   have hcz115_1 := celA BK272.out 1 (.int .i64 0)
                   have hcz115_2 := celA BK272.out 2 (.int .i64 0)
                   have hcz115_3 := celA BK272.out 3 (.string (⟨#[]⟩ : ByteArray))
                   have hcz115_4 := celA BK272.out 4 (.slice none 0 0)
                   have hfz115_0 := blk_frozen BK272.out 0
                   have hfz115_1 := blk_frozen BK272.out 1
                   have hfz115_2 := blk_frozen BK272.out 2
                   have hfz115_3 := blk_frozen BK272.out 3
                   have hfz115_4 := blk_frozen BK272.out 4
                   (try go_wp2_with (fail))
                   refine bodyPost_ret (results_ct rfl _ _ gb272 66 #[.int .i64 t276, .int .i64 t277, .int .i64 t278, .string t281, .slice Ao111 t285.length co111] (0, 0) _ rfl (by refine blkP (cs := #[.int .i64 t276, .int .i64 t277, .int .i64 t278, .string t281, .slice none 0 0]) ?_ 4 _; refine blkP (cs := #[.int .i64 t276, .int .i64 t277, .int .i64 t278, .string (⟨#[]⟩ : ByteArray), .slice none 0 0]) ?_ 3 _; refine blkP (cs := #[.int .i64 t276, .int .i64 t277, .int .i64 0, .string (⟨#[]⟩ : ByteArray), .slice none 0 0]) ?_ 2 _; refine blkP (cs := #[.int .i64 t276, .int .i64 0, .int .i64 0, .string (⟨#[]⟩ : ByteArray), .slice none 0 0]) ?_ 1 _; refine blkP (cs := #[.int .i64 0, .int .i64 0, .int .i64 0, .string (⟨#[]⟩ : ByteArray), .slice none 0 0]) ?_ 0 _; (with_reducible repeat (first | refine blk_drewN ?_ _ | refine blk_drew ?_ | refine blk_alloc ?_ _)); exact BK272.out) Tryz.underlying66 rfl (by kernel_rfl)) rfl ?_
                   exact ⟨_, endA, by (with_reducible repeat (first | apply Kd.R_alloc | apply Kd.R_drewN | apply Kd.R_drew)); exact Kd.R_mono (Kd.R_far (p := ⟨gb272, 4, none⟩) (Kd.R_far (p := ⟨gb272, 3, none⟩) (Kd.R_far (p := ⟨gb272, 2, none⟩) (Kd.R_far (p := ⟨gb272, 1, none⟩) (Kd.R_far (p := ⟨gb272, 0, none⟩) (Kd.R_types HO287.out BK272.out (by decide)) (fun _ hk => hk.2) (.int .i64 t276)) (fun _ hk => hk.2) (.int .i64 t277)) (fun _ hk => hk.2) (.int .i64 t278)) (fun _ hk => hk.2) (.string t281)) (fun _ hk => hk.2) (.slice Ao111 t285.length co111)) (fun _ hk => trivial), bwA⟩
                 | clear M6
                   have hcz114_0 := celA BK272.out 0 (.int .i64 0)
                   have hcz114_1 := celA BK272.out 1 (.int .i64 0)
                   have hcz114_2 := celA BK272.out 2 (.int .i64 0)
                   have hcz114_3 := celA BK272.out 3 (.string (⟨#[]⟩ : ByteArray))
                   have hcz114_4 := celA BK272.out 4 (.slice none 0 0)
                   have hfz114_0 := blk_frozen BK272.out 0
                   have hfz114_1 := blk_frozen BK272.out 1
                   have hfz114_2 := blk_frozen BK272.out 2
                   have hfz114_3 := blk_frozen BK272.out 3
                   have hfz114_4 := blk_frozen BK272.out 4
                   (try go_wp2_with (fail))
                   refine bodyPost_ret (results_ct rfl _ _ gb272 66 #[.int .i64 0, .int .i64 0, .int .i64 0, .string (⟨#[]⟩ : ByteArray), .slice none 0 0] (0, 0) _ rfl (by refine blkP (cs := #[.int .i64 0, .int .i64 0, .int .i64 0, .string (⟨#[]⟩ : ByteArray), .slice none 0 0]) ?_ 4 _; refine blkP (cs := #[.int .i64 0, .int .i64 0, .int .i64 0, .string (⟨#[]⟩ : ByteArray), .slice none 0 0]) ?_ 3 _; refine blkP (cs := #[.int .i64 0, .int .i64 0, .int .i64 0, .string (⟨#[]⟩ : ByteArray), .slice none 0 0]) ?_ 2 _; refine blkP (cs := #[.int .i64 0, .int .i64 0, .int .i64 0, .string (⟨#[]⟩ : ByteArray), .slice none 0 0]) ?_ 1 _; refine blkP (cs := #[.int .i64 0, .int .i64 0, .int .i64 0, .string (⟨#[]⟩ : ByteArray), .slice none 0 0]) ?_ 0 _; (with_reducible repeat (first | refine blk_drewN ?_ _ | refine blk_drew ?_ | refine blk_alloc ?_ _)); exact BK272.out) Tryz.underlying66 rfl (by kernel_rfl)) rfl ?_
                   exact ⟨_, endA, by first | exact Kd.R_nil _ _ _ _ _ | exact Kd.N_nil _ _ _ _ _ | exact Kd.V_nil _ _ _ _ _ | exact Kd.Q_nil _ _ _ _ _ | exact Kd.S_nil _ _ _ _ _, bwA⟩
         | clear M7
           have hcz110_0 := celA BK272.out 0 (.int .i64 0)
           have hcz110_1 := celA BK272.out 1 (.int .i64 0)
           have hcz110_2 := celA BK272.out 2 (.int .i64 0)
           have hcz110_3 := celA BK272.out 3 (.string (⟨#[]⟩ : ByteArray))
           have hcz110_4 := celA BK272.out 4 (.slice none 0 0)
           have hfz110_0 := blk_frozen BK272.out 0
           have hfz110_1 := blk_frozen BK272.out 1
           have hfz110_2 := blk_frozen BK272.out 2
           have hfz110_3 := blk_frozen BK272.out 3
           have hfz110_4 := blk_frozen BK272.out 4
           (try go_wp2_with (fail))
           refine bodyPost_ret (results_ct rfl _ _ gb272 66 #[.int .i64 0, .int .i64 0, .int .i64 0, .string (⟨#[]⟩ : ByteArray), .slice none 0 0] (0, 0) _ rfl (by refine blkP (cs := #[.int .i64 0, .int .i64 0, .int .i64 0, .string (⟨#[]⟩ : ByteArray), .slice none 0 0]) ?_ 4 _; refine blkP (cs := #[.int .i64 0, .int .i64 0, .int .i64 0, .string (⟨#[]⟩ : ByteArray), .slice none 0 0]) ?_ 3 _; refine blkP (cs := #[.int .i64 0, .int .i64 0, .int .i64 0, .string (⟨#[]⟩ : ByteArray), .slice none 0 0]) ?_ 2 _; refine blkP (cs := #[.int .i64 0, .int .i64 0, .int .i64 0, .string (⟨#[]⟩ : ByteArray), .slice none 0 0]) ?_ 1 _; refine blkP (cs := #[.int .i64 0, .int .i64 0, .int .i64 0, .string (⟨#[]⟩ : ByteArray), .slice none 0 0]) ?_ 0 _; (with_reducible repeat (first | refine blk_drewN ?_ _ | refine blk_drew ?_ | refine blk_alloc ?_ _)); refine blk_far ?_ NB272_284.out _; (with_reducible repeat (first | refine blk_drewN ?_ _ | refine blk_drew ?_ | refine blk_alloc ?_ _)); refine blk_far ?_ NB272_284.out _; (with_reducible repeat (first | refine blk_drewN ?_ _ | refine blk_drew ?_ | refine blk_alloc ?_ _)); refine blk_far ?_ NB272_284.out _; (with_reducible repeat (first | refine blk_drewN ?_ _ | refine blk_drew ?_ | refine blk_alloc ?_ _)); refine blk_far ?_ NB272_284.out _; (with_reducible repeat (first | refine blk_drewN ?_ _ | refine blk_drew ?_ | refine blk_alloc ?_ _)); refine blk_far ?_ NB272_284.out _; (with_reducible repeat (first | refine blk_drewN ?_ _ | refine blk_drew ?_ | refine blk_alloc ?_ _)); exact BK272.out) Tryz.underlying66 rfl (by kernel_rfl)) rfl ?_
           exact ⟨_, endA, by first | exact Kd.R_nil _ _ _ _ _ | exact Kd.N_nil _ _ _ _ _ | exact Kd.V_nil _ _ _ _ _ | exact Kd.Q_nil _ _ _ _ _ | exact Kd.S_nil _ _ _ _ _, bwA⟩
         | clear M8
           go_wp2_with (first | (go_at_call 52; (refine (event_Show.calls _ _ _ _ _ _ _ _ _ _ ?side1 ?side2 ?side3 A8.out).mono ?_); (case side1 => exact Kd.C_nil _ _); (case side2 => exact Nat.le_refl _); (case side3 => exact Tabs.below HT.out (bwA)); rintro e w110 ⟨rfl, hb⟩; replace BK272 := Aside0.mk (blk_below (g := gb272) (o := .cells #[.int .i64 0, .int .i64 0, .int .i64 0, .string (⟨#[]⟩ : ByteArray), .slice none 0 0] 66 (0, 0)) (by (with_reducible repeat (first | refine blk_drewN ?_ _ | refine blk_drew ?_ | refine blk_alloc ?_ _)); refine blk_far ?_ NB272_284.out _; (with_reducible repeat (first | refine blk_drewN ?_ _ | refine blk_drew ?_ | refine blk_alloc ?_ _)); refine blk_far ?_ NB272_284.out _; (with_reducible repeat (first | refine blk_drewN ?_ _ | refine blk_drew ?_ | refine blk_alloc ?_ _)); refine blk_far ?_ NB272_284.out _; (with_reducible repeat (first | refine blk_drewN ?_ _ | refine blk_drew ?_ | refine blk_alloc ?_ _)); refine blk_far ?_ NB272_284.out _; (with_reducible repeat (first | refine blk_drewN ?_ _ | refine blk_drew ?_ | refine blk_alloc ?_ _)); refine blk_far ?_ NB272_284.out _; (with_reducible repeat (first | refine blk_drewN ?_ _ | refine blk_drew ?_ | refine blk_alloc ?_ _)); exact BK272.out) hb); replace BK280 := Aside0.mk (blk_below (g := gb280) (o := .cells #[.int .i64 t276, .int .i64 t277, .int .i64 t278] 25 (0, 0)) (by (with_reducible repeat (first | refine blk_drewN ?_ _ | refine blk_drew ?_ | refine blk_alloc ?_ _)); refine blk_far ?_ NB280_284.out _; (with_reducible repeat (first | refine blk_drewN ?_ _ | refine blk_drew ?_ | refine blk_alloc ?_ _)); refine blk_far ?_ NB280_284.out _; (with_reducible repeat (first | refine blk_drewN ?_ _ | refine blk_drew ?_ | refine blk_alloc ?_ _)); refine blk_far ?_ NB280_284.out _; (with_reducible repeat (first | refine blk_drewN ?_ _ | refine blk_drew ?_ | refine blk_alloc ?_ _)); refine blk_far ?_ NB280_284.out _; (with_reducible repeat (first | refine blk_drewN ?_ _ | refine blk_drew ?_ | refine blk_alloc ?_ _)); refine blk_far ?_ NB280_284.out _; (with_reducible repeat (first | refine blk_drewN ?_ _ | refine blk_drew ?_ | refine blk_alloc ?_ _)); exact BK280.out) hb); replace BK284 := Aside0.mk (blk_below (g := gb284) (o := .cells #[.int .i64 t276, .int .i64 t277, .int .i64 t278, .string t281, .slice none 0 0] 66 (0, 0)) (by refine blkP (cs := #[.int .i64 t276, .int .i64 t277, .int .i64 t278, .string t281, .slice none 0 0]) ?_ 4 _; refine blkP (cs := #[.int .i64 t276, .int .i64 t277, .int .i64 t278, .string (⟨#[]⟩ : ByteArray), .slice none 0 0]) ?_ 3 _; refine blkP (cs := #[.int .i64 t276, .int .i64 t277, .int .i64 0, .string (⟨#[]⟩ : ByteArray), .slice none 0 0]) ?_ 2 _; refine blkP (cs := #[.int .i64 t276, .int .i64 0, .int .i64 0, .string (⟨#[]⟩ : ByteArray), .slice none 0 0]) ?_ 1 _; refine blkP (cs := #[.int .i64 0, .int .i64 0, .int .i64 0, .string (⟨#[]⟩ : ByteArray), .slice none 0 0]) ?_ 0 _; (with_reducible repeat (first | refine blk_drewN ?_ _ | refine blk_drew ?_ | refine blk_alloc ?_ _)); exact BK284.out) hb); replace HB := Aside0.mk (below_step (bwA) hb); (try clear hb); apply stopA; (case other => exact True.intro)))
           case _ =>
            first
             | clear M9
               have hcz111_0 := celA BK284.out 0 (.int .i64 t276)
               have hcz111_1 := celA BK284.out 1 (.int .i64 t277)
               have hcz111_2 := celA BK284.out 2 (.int .i64 t278)
               have hcz111_3 := celA BK284.out 3 (.string t281)
               have hcz111_4 := celA BK284.out 4 (.slice none 0 0)
               have hfz111_0 := blk_frozen BK284.out 0
               have hfz111_1 := blk_frozen BK284.out 1
               have hfz111_2 := blk_frozen BK284.out 2
               have hfz111_3 := blk_frozen BK284.out 3
               have hfz111_4 := blk_frozen BK284.out 4
               have hcz112_0 := celA BK272.out 0 (.int .i64 0)
               have hcz112_1 := celA BK272.out 1 (.int .i64 0)
               have hcz112_2 := celA BK272.out 2 (.int .i64 0)
               have hcz112_3 := celA BK272.out 3 (.string (⟨#[]⟩ : ByteArray))
               have hcz112_4 := celA BK272.out 4 (.slice none 0 0)
               have hfz112_0 := blk_frozen BK272.out 0
               have hfz112_1 := blk_frozen BK272.out 1
               have hfz112_2 := blk_frozen BK272.out 2
               have hfz112_3 := blk_frozen BK272.out 3
               have hfz112_4 := blk_frozen BK272.out 4
               (try go_wp2_with (fail))
               refine bodyPost_ret (results_ct rfl _ _ gb272 66 #[.int .i64 t276, .int .i64 t277, .int .i64 t278, .string t281, .slice none 0 0] (0, 0) _ rfl (by refine blkP (cs := #[.int .i64 t276, .int .i64 t277, .int .i64 t278, .string t281, .slice none 0 0]) ?_ 4 _; refine blkP (cs := #[.int .i64 t276, .int .i64 t277, .int .i64 t278, .string (⟨#[]⟩ : ByteArray), .slice none 0 0]) ?_ 3 _; refine blkP (cs := #[.int .i64 t276, .int .i64 t277, .int .i64 0, .string (⟨#[]⟩ : ByteArray), .slice none 0 0]) ?_ 2 _; refine blkP (cs := #[.int .i64 t276, .int .i64 0, .int .i64 0, .string (⟨#[]⟩ : ByteArray), .slice none 0 0]) ?_ 1 _; refine blkP (cs := #[.int .i64 0, .int .i64 0, .int .i64 0, .string (⟨#[]⟩ : ByteArray), .slice none 0 0]) ?_ 0 _; (with_reducible repeat (first | refine blk_drewN ?_ _ | refine blk_drew ?_ | refine blk_alloc ?_ _)); exact BK272.out) Tryz.underlying66 rfl (by kernel_rfl)) rfl ?_
               exact ⟨_, endA, by first | exact Kd.R_nil _ _ _ _ _ | exact Kd.N_nil _ _ _ _ _ | exact Kd.V_nil _ _ _ _ _ | exact Kd.Q_nil _ _ _ _ _ | exact Kd.S_nil _ _ _ _ _, bwA⟩
             | clear M10
               have hcz111_0 := celA BK272.out 0 (.int .i64 0)
               have hcz111_1 := celA BK272.out 1 (.int .i64 0)
               have hcz111_2 := celA BK272.out 2 (.int .i64 0)
               have hcz111_3 := celA BK272.out 3 (.string (⟨#[]⟩ : ByteArray))
               have hcz111_4 := celA BK272.out 4 (.slice none 0 0)
               have hfz111_0 := blk_frozen BK272.out 0
               have hfz111_1 := blk_frozen BK272.out 1
               have hfz111_2 := blk_frozen BK272.out 2
               have hfz111_3 := blk_frozen BK272.out 3
               have hfz111_4 := blk_frozen BK272.out 4
               (try go_wp2_with (fail))
               refine bodyPost_ret (results_ct rfl _ _ gb272 66 #[.int .i64 0, .int .i64 0, .int .i64 0, .string (⟨#[]⟩ : ByteArray), .slice none 0 0] (0, 0) _ rfl (by refine blkP (cs := #[.int .i64 0, .int .i64 0, .int .i64 0, .string (⟨#[]⟩ : ByteArray), .slice none 0 0]) ?_ 4 _; refine blkP (cs := #[.int .i64 0, .int .i64 0, .int .i64 0, .string (⟨#[]⟩ : ByteArray), .slice none 0 0]) ?_ 3 _; refine blkP (cs := #[.int .i64 0, .int .i64 0, .int .i64 0, .string (⟨#[]⟩ : ByteArray), .slice none 0 0]) ?_ 2 _; refine blkP (cs := #[.int .i64 0, .int .i64 0, .int .i64 0, .string (⟨#[]⟩ : ByteArray), .slice none 0 0]) ?_ 1 _; refine blkP (cs := #[.int .i64 0, .int .i64 0, .int .i64 0, .string (⟨#[]⟩ : ByteArray), .slice none 0 0]) ?_ 0 _; (with_reducible repeat (first | refine blk_drewN ?_ _ | refine blk_drew ?_ | refine blk_alloc ?_ _)); exact BK272.out) Tryz.underlying66 rfl (by kernel_rfl)) rfl ?_
               exact ⟨_, endA, by first | exact Kd.R_nil _ _ _ _ _ | exact Kd.N_nil _ _ _ _ _ | exact Kd.V_nil _ _ _ _ _ | exact Kd.Q_nil _ _ _ _ _ | exact Kd.S_nil _ _ _ _ _, bwA⟩
     | clear M11
       have hcz106_0 := celA BK272.out 0 (.int .i64 0)
       have hcz106_1 := celA BK272.out 1 (.int .i64 0)
       have hcz106_2 := celA BK272.out 2 (.int .i64 0)
       have hcz106_3 := celA BK272.out 3 (.string (⟨#[]⟩ : ByteArray))
       have hcz106_4 := celA BK272.out 4 (.slice none 0 0)
       have hfz106_0 := blk_frozen BK272.out 0
       have hfz106_1 := blk_frozen BK272.out 1
       have hfz106_2 := blk_frozen BK272.out 2
       have hfz106_3 := blk_frozen BK272.out 3
       have hfz106_4 := blk_frozen BK272.out 4
       (try go_wp2_with (fail))
       refine bodyPost_ret (results_ct rfl _ _ gb272 66 #[.int .i64 0, .int .i64 0, .int .i64 0, .string (⟨#[]⟩ : ByteArray), .slice none 0 0] (0, 0) _ rfl (by refine blkP (cs := #[.int .i64 0, .int .i64 0, .int .i64 0, .string (⟨#[]⟩ : ByteArray), .slice none 0 0]) ?_ 4 _; refine blkP (cs := #[.int .i64 0, .int .i64 0, .int .i64 0, .string (⟨#[]⟩ : ByteArray), .slice none 0 0]) ?_ 3 _; refine blkP (cs := #[.int .i64 0, .int .i64 0, .int .i64 0, .string (⟨#[]⟩ : ByteArray), .slice none 0 0]) ?_ 2 _; refine blkP (cs := #[.int .i64 0, .int .i64 0, .int .i64 0, .string (⟨#[]⟩ : ByteArray), .slice none 0 0]) ?_ 1 _; refine blkP (cs := #[.int .i64 0, .int .i64 0, .int .i64 0, .string (⟨#[]⟩ : ByteArray), .slice none 0 0]) ?_ 0 _; (with_reducible repeat (first | refine blk_drewN ?_ _ | refine blk_drew ?_ | refine blk_alloc ?_ _)); refine blk_far ?_ NB272_280.out _; (with_reducible repeat (first | refine blk_drewN ?_ _ | refine blk_drew ?_ | refine blk_alloc ?_ _)); refine blk_far ?_ NB272_280.out _; (with_reducible repeat (first | refine blk_drewN ?_ _ | refine blk_drew ?_ | refine blk_alloc ?_ _)); refine blk_far ?_ NB272_280.out _; (with_reducible repeat (first | refine blk_drewN ?_ _ | refine blk_drew ?_ | refine blk_alloc ?_ _)); exact BK272.out) Tryz.underlying66 rfl (by kernel_rfl)) rfl ?_
       exact ⟨_, endA, by first | exact Kd.R_nil _ _ _ _ _ | exact Kd.N_nil _ _ _ _ _ | exact Kd.V_nil _ _ _ _ _ | exact Kd.Q_nil _ _ _ _ _ | exact Kd.S_nil _ _ _ _ _, bwA⟩
/-! ### caduceuslaw06_awake: function 44 -/
def caduceuslaw06_awake.f (k : Nat)  : Option (Bool) := (some (([(⟨(⟨#[116, 105, 116, 108, 101]⟩ : ByteArray), (⟨2, 0, (⟨#[97, 32, 98]⟩ : ByteArray)⟩ : S74)⟩ : S76)] : List (S76)) : List (S76))).bind fun y290 => ((event_Parse.f k (⟨#[50, 46, 49, 46, 55, 32, 78, 101, 119, 115, 32, 116, 105, 116, 108, 101, 61, 34, 97, 32, 98, 34]⟩ : ByteArray)).bind fun bt294 => ((event_Show.f k 2 1 7 (⟨#[78, 101, 119, 115]⟩ : ByteArray) y290).bind fun t303 => (if t303.toList = ([50, 46, 49, 46, 55, 32, 78, 101, 119, 115, 32, 116, 105, 116, 108, 101, 61, 34, 97, 32, 98, 34] : List UInt8) then (if bt294.2.2.2.2.2 = 0 then ((event_Same.f k 2 1 7 (⟨#[78, 101, 119, 115]⟩ : ByteArray) y290 bt294.1 bt294.2.1 bt294.2.2.1 bt294.2.2.2.1 bt294.2.2.2.2.1).bind fun t304 => (if t304 = true then ((event_Check.f k 2 1 7 (⟨#[78, 101, 119, 115]⟩ : ByteArray) y290).bind fun t305 => (some t305)) else (none))) else (none)) else (none))))
theorem caduceuslaw06_awake.mono : ∀ k, LeO (caduceuslaw06_awake.f k ) (caduceuslaw06_awake.f (k + 1) ) := by
 intro  k
 unfold caduceuslaw06_awake.f
 repeat' (with_reducible first | exact event_Check.mono _ _ _ _ _ _ | exact event_Parse.mono _ _ | exact event_Same.mono _ _ _ _ _ _ _ _ _ _ _ | exact event_Show.mono _ _ _ _ _ _ | exact LeO.refl _ | exact LeO.none _ | refine LeO.ite ?_ ?_ | refine LeO.bind ?_ (fun _ => ?_))
set_option maxHeartbeats 8000000 in
set_option maxRecDepth 100000 in
theorem caduceuslaw06_awake.calls (k : Nat)  (r : Bool) (w : World) (hT : Tabs w) (h : caduceuslaw06_awake.f k  = some r) :
  Calls Tryz.prog 44 #[] w fun e w' => e = .returned (.bool r) ∧ Below w.heap.size w w' := by
 have hu25 := Tryz.underlying25
 have hu74 := Tryz.underlying74
 have hu76 := Tryz.underlying76
 have hu66 := Tryz.underlying66
 have HB := Aside0.mk (Below.refl w.heap.size w)
 unfold caduceuslaw06_awake.f at h
 have H := h
 clear h
 have HT := Aside0.mk hT
 clear hT
 obtain ⟨y290, hy290⟩ : ∃ y_ : List (S76), y_ = (([(⟨(⟨#[116, 105, 116, 108, 101]⟩ : ByteArray), (⟨2, 0, (⟨#[97, 32, 98]⟩ : ByteArray)⟩ : S74)⟩ : S76)] : List (S76))) := ⟨_, rfl⟩
 replace H : ((event_Parse.f k (⟨#[50, 46, 49, 46, 55, 32, 78, 101, 119, 115, 32, 116, 105, 116, 108, 101, 61, 34, 97, 32, 98, 34]⟩ : ByteArray)).bind fun bt294 => ((event_Show.f k 2 1 7 (⟨#[78, 101, 119, 115]⟩ : ByteArray) y290).bind fun t303 => (if t303.toList = ([50, 46, 49, 46, 55, 32, 78, 101, 119, 115, 32, 116, 105, 116, 108, 101, 61, 34, 97, 32, 98, 34] : List UInt8) then (if bt294.2.2.2.2.2 = 0 then ((event_Same.f k 2 1 7 (⟨#[78, 101, 119, 115]⟩ : ByteArray) y290 bt294.1 bt294.2.1 bt294.2.2.1 bt294.2.2.2.1 bt294.2.2.2.2.1).bind fun t304 => (if t304 = true then ((event_Check.f k 2 1 7 (⟨#[78, 101, 119, 115]⟩ : ByteArray) y290).bind fun t305 => (some t305)) else (none))) else (none)) else (none)))) = some r := by first | (rw [hy290]; with_reducible exact H) | (have H2_ := (Option.bind_some _ _).symm.trans H; rw [hy290]; with_reducible exact H2_) | (have H2_ := (Option.bind_some _ _).symm.trans H; with_reducible exact H2_) | with_reducible exact H | (rw [hy290]; exact H) | exact H
 have Ny290 := Aside0.mk hy290
 clear hy290
 replace H := Option.bind_eq_some_iff.mp H
 obtain ⟨⟨t294, t295, t296, t297, t298, t301⟩, A10, H⟩ := H
 replace H : ((event_Show.f k 2 1 7 (⟨#[78, 101, 119, 115]⟩ : ByteArray) y290).bind fun t303 => (if t303.toList = ([50, 46, 49, 46, 55, 32, 78, 101, 119, 115, 32, 116, 105, 116, 108, 101, 61, 34, 97, 32, 98, 34] : List UInt8) then (if t301 = 0 then ((event_Same.f k 2 1 7 (⟨#[78, 101, 119, 115]⟩ : ByteArray) y290 t294 t295 t296 t297 t298).bind fun t304 => (if t304 = true then ((event_Check.f k 2 1 7 (⟨#[78, 101, 119, 115]⟩ : ByteArray) y290).bind fun t305 => (some t305)) else (none))) else (none)) else (none))) = some r := H
 have A1 := Aside0.mk A10
 clear A10
 replace H := Option.bind_eq_some_iff.mp H
 obtain ⟨t303, A20, H⟩ := H
 replace H : (if t303.toList = ([50, 46, 49, 46, 55, 32, 78, 101, 119, 115, 32, 116, 105, 116, 108, 101, 61, 34, 97, 32, 98, 34] : List UInt8) then (if t301 = 0 then ((event_Same.f k 2 1 7 (⟨#[78, 101, 119, 115]⟩ : ByteArray) y290 t294 t295 t296 t297 t298).bind fun t304 => (if t304 = true then ((event_Check.f k 2 1 7 (⟨#[78, 101, 119, 115]⟩ : ByteArray) y290).bind fun t305 => (some t305)) else (none))) else (none)) else (none)) = some r := H
 have A2 := Aside0.mk A20
 clear A20
 replace H := itN H
 obtain ⟨c3, H⟩ := H
 obtain ⟨c3b0, c3b1⟩ := fcE c3
 clear c3
 replace H := itN H
 obtain ⟨c4, H⟩ := H
 obtain ⟨c4b0, c4b1⟩ := fcE c4
 clear c4
 replace H := bnA H
 obtain ⟨t304, A5, H⟩ := H
 replace H := itN H
 obtain ⟨c6, H⟩ := H
 subst c6
 replace H := bnA H
 obtain ⟨t305, A7, H⟩ := H
 obtain rfl := Option.some.inj H
 go_enter Tryz.func44, Tryz.ntmps44
 try go_wp2_with (first | ((with_reducible refine gate_dst (N := 7) rfl ?_); refine Kd.R_lit k76 _ 76 ?hg (N := 7) ?hd (xs := ([(⟨(⟨#[116, 105, 116, 108, 101]⟩ : ByteArray), (⟨2, 0, (⟨#[97, 32, 98]⟩ : ByteArray)⟩ : S74)⟩ : S76)] : List (S76))) (inner := [.string (⟨#[116, 105, 116, 108, 101]⟩ : ByteArray), .int .i64 2, .int .i64 0, .string (⟨#[97, 32, 98]⟩ : ByteArray)]) (ok := fun _ => True) (okp := fun _ => True) ?hr ?hp (fun _ hk => hk) trivial (Below.refl _ _) (Nat.le_refl _) (by simp) ?_; (case hd => rfl); (case hg => rfl); (case hr => first | (go_simp; done) | (go_simp; rfl)); (case hp => exact (Reps.c4 (show Kd.M k76 _ _ _ (⟨(⟨#[116, 105, 116, 108, 101]⟩ : ByteArray), (⟨2, 0, (⟨#[97, 32, 98]⟩ : ByteArray)⟩ : S74)⟩ : S76) [.string (⟨#[116, 105, 116, 108, 101]⟩ : ByteArray), .int .i64 2, .int .i64 0, .string (⟨#[97, 32, 98]⟩ : ByteArray)] from (k76_mkM _ _ _ (⟨(⟨#[116, 105, 116, 108, 101]⟩ : ByteArray), (⟨2, 0, (⟨#[97, 32, 98]⟩ : ByteArray)⟩ : S74)⟩ : S76) )) (Reps.none _ _))); intro v291 w101 ho102 hb hg_ hnew_; clear hg_ hnew_; (first | rw [← Ny290.out] at ho102 | (simp only [Int.reduceToNat] at ho102; rw [← Ny290.out] at ho102)); have HO292 := Aside0.mk (Kd.R_lower ho102 (below_size (bwA))); replace HB := Aside0.mk (below_step (bwA) hb); clear hb ho102; obtain ⟨Ao103, co103, eo103⟩ := Kd.R_slice HO292.out; subst eo103) | ((with_reducible refine gate_dst (N := 1) rfl ?_); refine boxA 1 #[.int .i64 0, .int .i64 0, .int .i64 0, .string (⟨#[]⟩ : ByteArray), .slice none 0 0] 66 ?_; intro gb293 hg w104 hbox hb; have BK293 := Aside0.mk (hbox); have GW293 := Aside0.mk (hgW hg : w.heap.size ≤ gb293); have GE293 := Aside0.mk (hgW hg : w.heap.size ≤ gb293); replace HO292 := Aside0.mk (Kd.R_below (raA HO292.out) hb); replace HB := Aside0.mk (below_step (bwA) hb); clear hb hbox hg; have hcz105_0 := celA BK293.out 0 (.int .i64 0); have hcz105_1 := celA BK293.out 1 (.int .i64 0); have hcz105_2 := celA BK293.out 2 (.int .i64 0); have hcz105_3 := celA BK293.out 3 (.string (⟨#[]⟩ : ByteArray)); have hcz105_4 := celA BK293.out 4 (.slice none 0 0); have hfz105_0 := blk_frozen BK293.out 0; have hfz105_1 := blk_frozen BK293.out 1; have hfz105_2 := blk_frozen BK293.out 2; have hfz105_3 := blk_frozen BK293.out 3; have hfz105_4 := blk_frozen BK293.out 4) | ((with_reducible refine gate_callee (f := 64) rfl ?_); refine goesA (some 10) Tryz.func64 #[.string (⟨#[50, 46, 49, 46, 55, 32, 78, 101, 119, 115, 32, 116, 105, 116, 108, 101, 61, 34, 97, 32, 98, 34]⟩ : ByteArray)] ?_; (with_reducible refine (event_Parse.calls _ _ _ _ _ _ _ _ _ ?side1 A1.out).mono ?_); (case side1 => exact Tabs.below HT.out (bwA)); rintro e w106 ⟨v299, rfl, ho0, hb⟩; refine ⟨_, rfl, ?_⟩; have HO300 := Aside0.mk (Kd.R_lower (Kd.R_new' ho0 (Kd.R_lt (raA (Kd.R_mono (Kd.R_far (p := ⟨gb293, 4, none⟩) (Kd.R_far (p := ⟨gb293, 3, none⟩) (Kd.R_far (p := ⟨gb293, 2, none⟩) (Kd.R_far (p := ⟨gb293, 1, none⟩) (Kd.R_far (p := ⟨gb293, 0, none⟩) (Kd.R_types HO292.out BK293.out (by decide)) (fun _ hk => hk.2) (.int .i64 2)) (fun _ hk => hk.2) (.int .i64 1)) (fun _ hk => hk.2) (.int .i64 7)) (fun _ hk => hk.2) (.string (⟨#[78, 101, 119, 115]⟩ : ByteArray))) (fun _ hk => hk.2) (.slice Ao103 y290.length co103)) (fun _ h_ => h_.1))))) (below_size (bwA))); replace HO292 := Aside0.mk (Kd.R_elder' (raA (Kd.R_mono (Kd.R_far (p := ⟨gb293, 4, none⟩) (Kd.R_far (p := ⟨gb293, 3, none⟩) (Kd.R_far (p := ⟨gb293, 2, none⟩) (Kd.R_far (p := ⟨gb293, 1, none⟩) (Kd.R_far (p := ⟨gb293, 0, none⟩) (Kd.R_types HO292.out BK293.out (by decide)) (fun _ hk => hk.2) (.int .i64 2)) (fun _ hk => hk.2) (.int .i64 1)) (fun _ hk => hk.2) (.int .i64 7)) (fun _ hk => hk.2) (.string (⟨#[78, 101, 119, 115]⟩ : ByteArray))) (fun _ hk => hk.2) (.slice Ao103 y290.length co103)) (fun _ h_ => h_.1))) (Kd.R_base ho0) hb); replace BK293 := Aside0.mk (blk_below (g := gb293) (o := .cells #[.int .i64 2, .int .i64 1, .int .i64 7, .string (⟨#[78, 101, 119, 115]⟩ : ByteArray), .slice Ao103 y290.length co103] 66 (0, 0)) (by refine blkP (cs := #[.int .i64 2, .int .i64 1, .int .i64 7, .string (⟨#[78, 101, 119, 115]⟩ : ByteArray), .slice none 0 0]) ?_ 4 _; refine blkP (cs := #[.int .i64 2, .int .i64 1, .int .i64 7, .string (⟨#[]⟩ : ByteArray), .slice none 0 0]) ?_ 3 _; refine blkP (cs := #[.int .i64 2, .int .i64 1, .int .i64 0, .string (⟨#[]⟩ : ByteArray), .slice none 0 0]) ?_ 2 _; refine blkP (cs := #[.int .i64 2, .int .i64 0, .int .i64 0, .string (⟨#[]⟩ : ByteArray), .slice none 0 0]) ?_ 1 _; refine blkP (cs := #[.int .i64 0, .int .i64 0, .int .i64 0, .string (⟨#[]⟩ : ByteArray), .slice none 0 0]) ?_ 0 _; (with_reducible repeat (first | refine blk_drewN ?_ _ | refine blk_drew ?_ | refine blk_alloc ?_ _)); exact BK293.out) hb); replace HB := Aside0.mk (below_step (bwA) hb); (try clear hb); (try clear ho0)) | ((with_reducible refine gate_dst (N := 2) rfl ?_); refine boxA 2 #[.int .i64 0, .int .i64 0, .int .i64 0, .string (⟨#[]⟩ : ByteArray), .slice none 0 0] 66 ?_; intro gb302 hg w107 hbox hb; have BK302 := Aside0.mk (hbox); have GW302 := Aside0.mk (hgW hg : w.heap.size ≤ gb302); have GE302 := Aside0.mk (hgW hg : w.heap.size ≤ gb302); have NB293_302 := Aside0.mk (hgL hg BK293 : gb293 ≠ gb302); have NB302_293 := Aside0.mk (hgG hg BK293 : gb302 ≠ gb293); replace HO292 := Aside0.mk (Kd.R_below (raA HO292.out) hb); replace HO300 := Aside0.mk (Kd.R_below (raA HO300.out) hb); replace BK293 := Aside0.mk (bkB BK293 hb); replace HB := Aside0.mk (below_step (bwA) hb); clear hb hbox hg; have hnb108 := NB302_293.out; have hnc108 := NB293_302.out; have hcz109_0 := celA BK302.out 0 (.int .i64 0); have hcz109_1 := celA BK302.out 1 (.int .i64 0); have hcz109_2 := celA BK302.out 2 (.int .i64 0); have hcz109_3 := celA BK302.out 3 (.string (⟨#[]⟩ : ByteArray)); have hcz109_4 := celA BK302.out 4 (.slice none 0 0); have hfz109_0 := blk_frozen BK302.out 0; have hfz109_1 := blk_frozen BK302.out 1; have hfz109_2 := blk_frozen BK302.out 2; have hfz109_3 := blk_frozen BK302.out 3; have hfz109_4 := blk_frozen BK302.out 4; obtain ⟨Ao110, co110, eo110⟩ := Kd.R_slice HO300.out; subst eo110; have hcz111_0 := celA BK293.out 0 (.int .i64 2); have hcz111_1 := celA BK293.out 1 (.int .i64 1); have hcz111_2 := celA BK293.out 2 (.int .i64 7); have hcz111_3 := celA BK293.out 3 (.string (⟨#[78, 101, 119, 115]⟩ : ByteArray)); have hcz111_4 := celA BK293.out 4 (.slice Ao103 y290.length co103); have hfz111_0 := blk_frozen BK293.out 0; have hfz111_1 := blk_frozen BK293.out 1; have hfz111_2 := blk_frozen BK293.out 2; have hfz111_3 := blk_frozen BK293.out 3; have hfz111_4 := blk_frozen BK293.out 4) | ((with_reducible refine gate_callee (f := 52) rfl ?_); refine goesA (some 14) Tryz.func52 #[.agg #[.int .i64 2, .int .i64 1, .int .i64 7, .string (⟨#[78, 101, 119, 115]⟩ : ByteArray), .slice Ao103 y290.length co103]] ?_; (with_reducible refine (event_Show.calls _ _ _ _ _ _ _ _ _ _ ?side1 ?side2 ?side3 A2.out).mono ?_); (case side1 => refine (Kd.R_reads' (e := 76) (base := w.heap.size) (ok := fun k_ => (True ∧ some k_ ≠ (.slice Ao110 t298.length co110 : Value).ownBlock)) (n := y290.length) (c := co103) ?_).2.2; exact (raA (Kd.R_mono (Kd.R_far (p := ⟨gb302, 4, none⟩) (Kd.R_far (p := ⟨gb302, 3, none⟩) (Kd.R_far (p := ⟨gb302, 2, none⟩) (Kd.R_far (p := ⟨gb302, 1, none⟩) (Kd.R_far (p := ⟨gb302, 0, none⟩) (Kd.R_types HO292.out BK302.out (by decide)) (fun _ hk => hk.2) (.int .i64 t294)) (fun _ hk => hk.2) (.int .i64 t295)) (fun _ hk => hk.2) (.int .i64 t296)) (fun _ hk => hk.2) (.string t297)) (fun _ hk => hk.2) (.slice Ao110 t298.length co110)) (fun _ h_ => h_.1)))); (case side2 => exact (Kd.R_reads' HO292.out).2.1); (case side3 => exact Tabs.below HT.out (bwA)); rintro e w112 ⟨rfl, hb⟩; refine ⟨_, rfl, ?_⟩; replace HO292 := Aside0.mk (Kd.R_below (raA (Kd.R_mono (Kd.R_far (p := ⟨gb302, 4, none⟩) (Kd.R_far (p := ⟨gb302, 3, none⟩) (Kd.R_far (p := ⟨gb302, 2, none⟩) (Kd.R_far (p := ⟨gb302, 1, none⟩) (Kd.R_far (p := ⟨gb302, 0, none⟩) (Kd.R_types HO292.out BK302.out (by decide)) (fun _ hk => hk.2) (.int .i64 t294)) (fun _ hk => hk.2) (.int .i64 t295)) (fun _ hk => hk.2) (.int .i64 t296)) (fun _ hk => hk.2) (.string t297)) (fun _ hk => hk.2) (.slice Ao110 t298.length co110)) (fun _ h_ => h_.1))) hb); replace HO300 := Aside0.mk (Kd.R_below (raA (Kd.R_mono (Kd.R_far (p := ⟨gb302, 4, none⟩) (Kd.R_far (p := ⟨gb302, 3, none⟩) (Kd.R_far (p := ⟨gb302, 2, none⟩) (Kd.R_far (p := ⟨gb302, 1, none⟩) (Kd.R_far (p := ⟨gb302, 0, none⟩) (Kd.R_types HO300.out BK302.out (by decide)) (fun _ hk => hk.2) (.int .i64 t294)) (fun _ hk => hk.2) (.int .i64 t295)) (fun _ hk => hk.2) (.int .i64 t296)) (fun _ hk => hk.2) (.string t297)) (fun _ hk => hk.2) (.slice Ao110 t298.length co110)) (fun _ h_ => h_.1))) hb); replace BK293 := Aside0.mk (blk_below (g := gb293) (o := .cells #[.int .i64 2, .int .i64 1, .int .i64 7, .string (⟨#[78, 101, 119, 115]⟩ : ByteArray), .slice Ao103 y290.length co103] 66 (0, 0)) (by (with_reducible repeat (first | refine blk_drewN ?_ _ | refine blk_drew ?_ | refine blk_alloc ?_ _)); refine blk_far ?_ NB293_302.out _; (with_reducible repeat (first | refine blk_drewN ?_ _ | refine blk_drew ?_ | refine blk_alloc ?_ _)); refine blk_far ?_ NB293_302.out _; (with_reducible repeat (first | refine blk_drewN ?_ _ | refine blk_drew ?_ | refine blk_alloc ?_ _)); refine blk_far ?_ NB293_302.out _; (with_reducible repeat (first | refine blk_drewN ?_ _ | refine blk_drew ?_ | refine blk_alloc ?_ _)); refine blk_far ?_ NB293_302.out _; (with_reducible repeat (first | refine blk_drewN ?_ _ | refine blk_drew ?_ | refine blk_alloc ?_ _)); refine blk_far ?_ NB293_302.out _; (with_reducible repeat (first | refine blk_drewN ?_ _ | refine blk_drew ?_ | refine blk_alloc ?_ _)); exact BK293.out) hb); replace BK302 := Aside0.mk (blk_below (g := gb302) (o := .cells #[.int .i64 t294, .int .i64 t295, .int .i64 t296, .string t297, .slice Ao110 t298.length co110] 66 (0, 0)) (by refine blkP (cs := #[.int .i64 t294, .int .i64 t295, .int .i64 t296, .string t297, .slice none 0 0]) ?_ 4 _; refine blkP (cs := #[.int .i64 t294, .int .i64 t295, .int .i64 t296, .string (⟨#[]⟩ : ByteArray), .slice none 0 0]) ?_ 3 _; refine blkP (cs := #[.int .i64 t294, .int .i64 t295, .int .i64 0, .string (⟨#[]⟩ : ByteArray), .slice none 0 0]) ?_ 2 _; refine blkP (cs := #[.int .i64 t294, .int .i64 0, .int .i64 0, .string (⟨#[]⟩ : ByteArray), .slice none 0 0]) ?_ 1 _; refine blkP (cs := #[.int .i64 0, .int .i64 0, .int .i64 0, .string (⟨#[]⟩ : ByteArray), .slice none 0 0]) ?_ 0 _; (with_reducible repeat (first | refine blk_drewN ?_ _ | refine blk_drew ?_ | refine blk_alloc ?_ _)); exact BK302.out) hb); replace HB := Aside0.mk (below_step (bwA) hb); (try clear hb); have hcz113_0 := celA BK293.out 0 (.int .i64 2); have hcz113_1 := celA BK293.out 1 (.int .i64 1); have hcz113_2 := celA BK293.out 2 (.int .i64 7); have hcz113_3 := celA BK293.out 3 (.string (⟨#[78, 101, 119, 115]⟩ : ByteArray)); have hcz113_4 := celA BK293.out 4 (.slice Ao103 y290.length co103); have hfz113_0 := blk_frozen BK293.out 0; have hfz113_1 := blk_frozen BK293.out 1; have hfz113_2 := blk_frozen BK293.out 2; have hfz113_3 := blk_frozen BK293.out 3; have hfz113_4 := blk_frozen BK293.out 4; have hcz114_0 := celA BK302.out 0 (.int .i64 t294); have hcz114_1 := celA BK302.out 1 (.int .i64 t295); have hcz114_2 := celA BK302.out 2 (.int .i64 t296); have hcz114_3 := celA BK302.out 3 (.string t297); have hcz114_4 := celA BK302.out 4 (.slice Ao110 t298.length co110); have hfz114_0 := blk_frozen BK302.out 0; have hfz114_1 := blk_frozen BK302.out 1; have hfz114_2 := blk_frozen BK302.out 2; have hfz114_3 := blk_frozen BK302.out 3; have hfz114_4 := blk_frozen BK302.out 4) | (go_at_call 48; (with_reducible refine (event_Same.calls _ _ _ _ _ _ _ _ _ _ _ _ _ _ _ _ _ ?side1 ?side2 ?side3 ?side4 A5.out).mono ?_); (case side1 => repeat (first | exact (Kd.R_reads' HO292.out).2.2 | (with_reducible refine Kd.C_alloc ?_ _) | (with_reducible refine Kd.C_drewN ?_ _) | (with_reducible refine Kd.C_drew ?_))); (case side2 => exact (Kd.R_reads' HO292.out).2.1); (case side3 => repeat (first | exact (Kd.R_reads' HO300.out).2.2 | (with_reducible refine Kd.C_alloc ?_ _) | (with_reducible refine Kd.C_drewN ?_ _) | (with_reducible refine Kd.C_drew ?_))); (case side4 => exact (Kd.R_reads' HO300.out).2.1); rintro e w115 ⟨rfl, hb⟩; replace HO292 := Aside0.mk (Kd.R_below (raA HO292.out) hb); replace HO300 := Aside0.mk (Kd.R_below (raA HO300.out) hb); replace BK293 := Aside0.mk (bkB BK293 hb); replace BK302 := Aside0.mk (bkB BK302 hb); replace HB := Aside0.mk (below_step (bwA) hb); (try clear hb); have hcz116_0 := celA BK293.out 0 (.int .i64 2); have hcz116_1 := celA BK293.out 1 (.int .i64 1); have hcz116_2 := celA BK293.out 2 (.int .i64 7); have hcz116_3 := celA BK293.out 3 (.string (⟨#[78, 101, 119, 115]⟩ : ByteArray)); have hcz116_4 := celA BK293.out 4 (.slice Ao103 y290.length co103); have hfz116_0 := blk_frozen BK293.out 0; have hfz116_1 := blk_frozen BK293.out 1; have hfz116_2 := blk_frozen BK293.out 2; have hfz116_3 := blk_frozen BK293.out 3; have hfz116_4 := blk_frozen BK293.out 4) | (go_at_call 46; (with_reducible refine (event_Check.calls _ _ _ _ _ _ _ _ _ _ ?side1 ?side2 ?side3 A7.out).mono ?_); (case side1 => repeat (first | exact (Kd.R_reads' HO292.out).2.2 | (with_reducible refine Kd.C_alloc ?_ _) | (with_reducible refine Kd.C_drewN ?_ _) | (with_reducible refine Kd.C_drew ?_))); (case side2 => exact (Kd.R_reads' HO292.out).2.1); (case side3 => exact Tabs.below HT.out (bwA)); rintro e w117 ⟨rfl, hb⟩; replace HO292 := Aside0.mk (Kd.R_below (raA HO292.out) hb); replace HO300 := Aside0.mk (Kd.R_below (raA HO300.out) hb); replace BK293 := Aside0.mk (bkB BK293 hb); replace BK302 := Aside0.mk (bkB BK302 hb); replace HB := Aside0.mk (below_step (bwA) hb); (try clear hb)))
 go_ret
 exact ⟨endA, bwA⟩
/-! ### quic_Size: function 171 -/
def quic_Size.j0 : Nat → Int → Int → Bool → Option (Int)
 | 0, _, _, _ => none
 | k + 1, x0, x3, x4 => if x4 = true then (some 0) else (if x0 ≥ 1073741824 then (some (wrap64 ((wrap64 ((wrap64 (x3 * 2)) * 2)) * 2))) else (if x0 ≥ 16384 then (some (wrap64 ((wrap64 (x3 * 2)) * 2))) else (if x0 ≥ 64 then (some (wrap64 (x3 * 2))) else (some x3))))
def quic_Size.f (k : Nat) (a0 : Int) : Option (Int) := if a0 < 0 then (quic_Size.j0 k a0 1 true) else (quic_Size.j0 k a0 1 (decide (a0 > 4611686018427387903)))
theorem quic_Size.mono_l : ∀ k, (∀ y0 y1 y2, LeO (quic_Size.j0 k y0 y1 y2) (quic_Size.j0 (k + 1) y0 y1 y2))
 | 0 => fun _ _ _ r h => by simp [quic_Size.j0] at h
 | k + 1 => by
  have ih0 := quic_Size.mono_l k
  ·intro y0 y1 y2
   unfold quic_Size.j0
   repeat' (with_reducible first | exact ih0 _ _ _ | exact LeO.refl _ | exact LeO.none _ | refine LeO.ite ?_ ?_ | refine LeO.bind ?_ (fun _ => ?_))
theorem quic_Size.mono : ∀ a0 k, LeO (quic_Size.f k a0) (quic_Size.f (k + 1) a0) := by
 intro a0 k
 have ih0 := quic_Size.mono_l k
 unfold quic_Size.f
 repeat' (with_reducible first | exact ih0 _ _ _ | exact LeO.refl _ | exact LeO.none _ | refine LeO.ite ?_ ?_ | refine LeO.bind ?_ (fun _ => ?_))
set_option maxHeartbeats 8000000 in
set_option maxRecDepth 100000 in
theorem quic_Size.calls (k : Nat) (a0 : Int) (r : Int) (w : World) (h : quic_Size.f k a0 = some r) :
  Calls Tryz.prog 171 #[.int .i64 a0] w fun e w' => e = .returned (.int .i64 r) ∧ Drawn0 w w' := by
 unfold quic_Size.f at h
 have H := h
 clear h
 have HC101 := Aside0.mk H
 clear H
 go_enter Tryz.func171, Tryz.ntmps171
 go_upto_region 2 with (fail)
 go_cut [4] (fun v4 wc => ∃ (kq : Nat) (x4_100 : Bool), v4 = .bool x4_100 ∧ Aside0 (quic_Size.j0 kq a0 1 x4_100 = some r) ∧ Aside0 (kq ≤ k) ∧ Drawn0 w wc)
 case first =>
  have H := HC101.out
  clear HC101
  revert H; refine itR ?L3p ?L3n
  case' L3p =>
   intro c102 H
   have c102b0 := decide_eq_true c102
   clear c102
   (first | rw [c102b0] | (simp only [i64_w, i32_w]; rw [c102b0]) | skip)
   have H' := Aside0.mk H
   clear H
   have M1 := True.intro
  case' L3n =>
   intro c102 H
   have c102b0 := decide_eq_false c102
   clear c102
   (first | rw [c102b0] | (simp only [i64_w, i32_w]; rw [c102b0]) | skip)
   have H' := Aside0.mk H
   clear H
   have M2 := True.intro
  all_goals
   case _ =>
    go_wp2
    go_meet
    first
     | clear M1
       case rel => exact ⟨_, (true), (endS), H', ⟨by first | omega | exact Nat.le_refl _⟩, drA⟩
     | clear M2
       case rel => exact ⟨_, (decide (a0 > 4611686018427387903)), (endS), H', ⟨by first | omega | exact Nat.le_refl _⟩, drA⟩
 case rest =>
  clear HC101
  try clear c1
  try clear p2
  try clear c10
  try clear c17
  obtain ⟨kq, x4_100, rfl, HA, HJ100, ⟨mc100, rfl⟩⟩ := hcut
  cases kq with
  | zero => exact absurd HA.out (by simp [quic_Size.j0])
  | succ kj100 =>
   have H := HA.out
   clear HA
   simp only [quic_Size.j0] at H
   revert H; refine itR ?L4p ?L4n
   case' L4p =>
    intro c102 H
    subst c102
    obtain rfl := Option.some.inj H
   case' L4n =>
    intro c102 H
    replace c102 := Bool.eq_false_iff.mpr c102
    subst c102
    revert H; refine itR ?L5p ?L5n
    case' L5p =>
     intro c103 H
     have c103b0 := geT c103
     clear c103
     obtain rfl := Option.some.inj H
    case' L5n =>
     intro c103 H
     have c103b0 := geF c103
     clear c103
     revert H; refine itR ?L6p ?L6n
     case' L6p =>
      intro c104 H
      have c104b0 := geT c104
      clear c104
      obtain rfl := Option.some.inj H
     case' L6n =>
      intro c104 H
      have c104b0 := geF c104
      clear c104
      revert H; refine itR ?L7p ?L7n
      case' L7p =>
       intro c105 H
       have c105b0 := geT c105
       clear c105
       obtain rfl := Option.some.inj H
      case' L7n =>
       intro c105 H
       have c105b0 := geF c105
       clear c105
       obtain rfl := Option.some.inj H
   all_goals
    case _ =>
     go_wp2
     go_ret
     exact ⟨endS, drA⟩
/-! ### quic_class: function 172 -/
def quic_class.l0 : Nat → Int → Int → Option (Int)
 | 0, _, _ => none
 | k + 1, x0, x3 => if x0 > 1 then (quic_class.l0 k (wrap64 (Int.tdiv x0 2)) (wrap64 (x3 + 1))) else (some x3)
def quic_class.f (k : Nat) (a0 : Int) : Option (Int) := quic_class.l0 k a0 0
theorem quic_class.mono_l : ∀ k, (∀ y0 y1, LeO (quic_class.l0 k y0 y1) (quic_class.l0 (k + 1) y0 y1))
 | 0 => fun _ _ r h => by simp [quic_class.l0] at h
 | k + 1 => by
  have ih0 := quic_class.mono_l k
  ·intro y0 y1
   unfold quic_class.l0
   repeat' (with_reducible first | exact ih0 _ _ | exact LeO.refl _ | exact LeO.none _ | refine LeO.ite ?_ ?_ | refine LeO.bind ?_ (fun _ => ?_))
theorem quic_class.mono : ∀ a0 k, LeO (quic_class.f k a0) (quic_class.f (k + 1) a0) := by
 intro a0 k
 have ih0 := quic_class.mono_l k
 unfold quic_class.f
 repeat' (with_reducible first | exact ih0 _ _ | exact LeO.refl _ | exact LeO.none _ | refine LeO.ite ?_ ?_ | refine LeO.bind ?_ (fun _ => ?_))
set_option maxHeartbeats 8000000 in
set_option maxRecDepth 100000 in
theorem quic_class.calls (k : Nat) (a0 : Int) (r : Int) (w : World) (h : quic_class.f k a0 = some r) :
  Calls Tryz.prog 172 #[.int .i64 a0] w fun e w' => e = .returned (.int .i64 r) ∧ Drawn0 w w' := by
 unfold quic_class.f at h
 have H := h
 clear h
 have H' := Aside0.mk H
 clear H
 go_enter Tryz.func172, Tryz.ntmps172
 go_wp2
 go_loopg [0, 3] k (fun kq v0 v3 w' => ∃ (x0_1 : Int) (x3_1 : Int), v0 = .int .i64 x0_1 ∧ v3 = .int .i64 x3_1 ∧ Aside0 (quic_class.l0 kq x0_1 x3_1 = some r) ∧ Aside0 (kq ≤ k) ∧ Drawn0 w w')
 case atStart => exact ⟨(a0), (0), (endS), (endS), H', ⟨Nat.le_refl _⟩, drA⟩
 case round =>
  clear H'
  try clear c1
  try clear p2
  try clear c17
  obtain ⟨x0_1, x3_1, rfl, rfl, HA, HK1, ⟨m1, rfl⟩⟩ := hrel
  cases gk with
  | zero => exact absurd HA.out (by simp [quic_class.l0])
  | succ k1 =>
   have H := HA.out
   clear HA
   simp only [quic_class.l0] at H
   by_cases c101 : x0_1 > 1
   ·rw [if_pos c101] at H
    have c101b0 : decide (1 < x0_1) = true := decide_eq_true c101
    clear c101
    have H' := Aside0.mk H
    clear H
    go_wp2
    go_roundg k1
    case measure => have := HK1.out; omega
    case rel => exact ⟨(wrap64 (Int.tdiv x0_1 2)), (wrap64 (x3_1 + 1)), (endS), (endS), H', ⟨by have := HK1.out; omega⟩, drA⟩
   ·rw [if_neg c101] at H
    have c101b0 : decide (1 < x0_1) = false := decide_eq_false c101
    clear c101
    obtain rfl := Option.some.inj H
    go_wp2
    go_ret
    exact ⟨endS, drA⟩

end Go.Proofs.YtkdndabpaajkaaaGreatDoor.A
