-- By drv.py, the session's own driver round the kit's print: the machine's side of the laws, function by function. Not trusted: Lean checks it.
import Derived.Test.YtoajlmmkkcelgaaDoorAx0
import Derived.Test.YtoajlmmkkcelgaaDoorAx1
import Derived.Test.YtoajlmmkkcelgaaDoorAx11
import Derived.Test.YtoajlmmkkcelgaaDoorAx12
import Derived.Test.YtoajlmmkkcelgaaDoorAx13
import Derived.Test.YtoajlmmkkcelgaaDoorAx14
import Derived.Test.YtoajlmmkkcelgaaDoorAx22
import Derived.Test.YtoajlmmkkcelgaaDoorAx25
namespace Go.Proofs.YtoajlmmkkcelgaaDoor.A
open Go.RowKit Go.Proofs.YtoajlmmkkcelgaaDoorW.PrintWords Go.Proofs.YtoajlmmkkcelgaaDoorW.PrintLast Go.Proofs.YtoajlmmkkcelgaaDoorW.PrintMore
attribute [local go_sem] max2_int min2_int max_two min_two max_three min_three max_four min_four   -- for this text's walks alone
set_option linter.unusedVariables false
set_option linter.unusedSimpArgs false

attribute [local go_sem high] eqA25
/-! ### caduceuslaw03_ValueBack: function 13 -/
def caduceuslaw03_ValueBack.j0 : Nat → ByteArray → Bool → Int → Int → ByteArray → Option (Bool)
 | 0, _, _, _, _, _ => none
 | k + 1, x1, x21, x506000, x506001, x506002 => if x21 = true then ((caduceuslaw03_awake.f k).bind fun t508 => (some t508)) else ((value_Check.f x506000 x506001 x506002).bind fun t509 => (if t509 = true then ((value_Show.f k x506000 x506001 x506002).bind fun t513 => (if t513.size + 1 ≤ 9223372036854775807 then (if (t513 ++ (⟨#[32]⟩ : ByteArray)).size + x1.size ≤ 9223372036854775807 then ((value_Scan.f k ((t513 ++ (⟨#[32]⟩ : ByteArray)) ++ x1)).bind fun bt514 => ((value_Text.f k x506000 x506001 x506002).bind fun t520 => (if t520.size + x1.size ≤ 9223372036854775807 then ((value_Read.f k (t520 ++ x1)).bind fun bt521 => ((value_Show.f k x506000 x506001 x506002).bind fun t527 => ((value_Parse.f k t527).bind fun bt528 => ((caduceuslaw03_awake.f k).bind fun t533 => (if t533 = true then (if bt514.2.2.2.2 = 0 then (if bt521.2.2.2.2 = 0 then (if bt528.2.2.2 = 0 then (if (bt514.1 == x506000 && (bt514.2.1 == x506001 && (bt514.2.2.1.toList == x506002.toList))) = true then (if (bt521.1 == x506000 && (bt521.2.1 == x506001 && (bt521.2.2.1.toList == x506002.toList))) = true then (if (bt528.1 == x506000 && (bt528.2.1 == x506001 && (bt528.2.2.1.toList == x506002.toList))) = true then (if 1 + x1.size ≤ 9223372036854775807 then (if bt514.2.2.2.1.toList = ((⟨#[32]⟩ : ByteArray) ++ x1).toList then (some (bt521.2.2.2.1.toList == x1.toList)) else (none)) else (none)) else (none)) else (none)) else (none)) else (none)) else (none)) else (none)) else (none)))))) else (none)))) else (none)) else (none))) else ((caduceuslaw03_awake.f k).bind fun t510 => (if t510 = true then ((value_Show.f k x506000 x506001 x506002).bind fun t511 => (if t511.toList = ([] : List UInt8) then ((value_Text.f k x506000 x506001 x506002).bind fun t512 => (some (t512.toList == ([] : List UInt8)))) else (none))) else (none)))))
def caduceuslaw03_ValueBack.f (k : Nat) (a0_0 : Int) (a0_1 : Int) (a0_2 : ByteArray) (a1 : ByteArray) : Option (Bool) := (caduceuslaw03_few.f a0_2).bind fun t506 => (if t506 = true then ((caduceuslaw03_few.f a1).bind fun t507 => (caduceuslaw03_ValueBack.j0 k a1 (!t507) a0_0 a0_1 a0_2)) else (caduceuslaw03_ValueBack.j0 k a1 true a0_0 a0_1 a0_2))
theorem caduceuslaw03_ValueBack.mono_l : ∀ k, (∀ y0 y1 y2 y3 y4, LeO (caduceuslaw03_ValueBack.j0 k y0 y1 y2 y3 y4) (caduceuslaw03_ValueBack.j0 (k + 1) y0 y1 y2 y3 y4))
 | 0 => fun _ _ _ _ _ r h => by simp [caduceuslaw03_ValueBack.j0] at h
 | k + 1 => by
  have ih0 := caduceuslaw03_ValueBack.mono_l k
  ·intro y0 y1 y2 y3 y4
   unfold caduceuslaw03_ValueBack.j0
   repeat' first
   | (with_reducible exact ih0 _ _ _ _ _)
   | (with_reducible exact caduceuslaw03_awake.mono _)
   | (with_reducible exact value_Parse.mono _ _)
   | (with_reducible exact value_Read.mono _ _)
   | (with_reducible exact value_Scan.mono _ _)
   | (with_reducible exact value_Show.mono _ _ _ _)
   | (with_reducible exact value_Text.mono _ _ _ _)
   | (with_reducible exact LeO.refl _)
   | (with_reducible exact LeO.none _)
   | (with_reducible refine LeO.ite ?_ ?_)
   | (with_reducible refine LeO.bind ?_ (fun _ => ?_))
   | exact ih0 _ _ _ _ _
   | exact caduceuslaw03_awake.mono _
   | exact value_Parse.mono _ _
   | exact value_Read.mono _ _
   | exact value_Scan.mono _ _
   | exact value_Show.mono _ _ _ _
   | exact value_Text.mono _ _ _ _
   | exact LeO.none _
   | refine LeO.ite ?_ ?_
   | refine LeO.bind ?_ (fun _ => ?_)
theorem caduceuslaw03_ValueBack.mono : ∀ a0 a1 a2 a3 k, LeO (caduceuslaw03_ValueBack.f k a0 a1 a2 a3) (caduceuslaw03_ValueBack.f (k + 1) a0 a1 a2 a3) := by
 intro a0 a1 a2 a3 k
 have ih0 := caduceuslaw03_ValueBack.mono_l k
 unfold caduceuslaw03_ValueBack.f
 repeat' first
   | (with_reducible exact ih0 _ _ _ _ _)
   | (with_reducible exact caduceuslaw03_awake.mono _)
   | (with_reducible exact value_Parse.mono _ _)
   | (with_reducible exact value_Read.mono _ _)
   | (with_reducible exact value_Scan.mono _ _)
   | (with_reducible exact value_Show.mono _ _ _ _)
   | (with_reducible exact value_Text.mono _ _ _ _)
   | (with_reducible exact LeO.refl _)
   | (with_reducible exact LeO.none _)
   | (with_reducible refine LeO.ite ?_ ?_)
   | (with_reducible refine LeO.bind ?_ (fun _ => ?_))
   | exact ih0 _ _ _ _ _
   | exact caduceuslaw03_awake.mono _
   | exact value_Parse.mono _ _
   | exact value_Read.mono _ _
   | exact value_Scan.mono _ _
   | exact value_Show.mono _ _ _ _
   | exact value_Text.mono _ _ _ _
   | exact LeO.none _
   | refine LeO.ite ?_ ?_
   | refine LeO.bind ?_ (fun _ => ?_)
set_option maxHeartbeats 8000000 in
set_option maxRecDepth 100000 in
theorem caduceuslaw03_ValueBack.calls (k : Nat) (a0_0 : Int) (a0_1 : Int) (a0_2 : ByteArray) (a1 : ByteArray) (r : Bool) (w : World) (hT : Tabs w) (h : caduceuslaw03_ValueBack.f k a0_0 a0_1 a0_2 a1 = some r) :
  Calls Tryd.prog 13 #[.agg #[.int .i64 a0_0, .int .i64 a0_1, .string a0_2], .string a1] w fun e w' => e = .returned (.bool r) ∧ Below w.heap.size w w' := by
 have hu25 := Tryd.underlying25
 have HB := Aside0.mk (Below.refl w.heap.size w)
 have H : ((caduceuslaw03_few.f a0_2).bind fun t506 => (if t506 = true then ((caduceuslaw03_few.f a1).bind fun t507 => (caduceuslaw03_ValueBack.j0 k a1 (!t507) a0_0 a0_1 a0_2)) else (caduceuslaw03_ValueBack.j0 k a1 true a0_0 a0_1 a0_2))) = some r := h
 clear h
 have HT := Aside0.mk hT
 clear hT
 have HC3 := Aside0.mk H
 clear H
 go_enter Tryd.func13, Tryd.ntmps13
 go_upto_region 1 with (first | ((with_reducible refine gate_dst (N := 2) rfl ?_); refine box_event ?hg (N := 2) ?hd (cs := #[.int .i64 a0_0, .int .i64 a0_1, .string a0_2]) (t := 25) ?hr ?_; (case hd => rfl); (case hg => rfl); (case hr => first | (go_simp; done) | (go_simp; rfl)); intro gb505 hg w4 hbox hb; have n0_ := Aside0.mk (below_step bwA hb); have n1_ := Aside0.mk (hbox); have n2_ := Aside0.mk ((by rw [hg]; exact (below_size bwA) : w.heap.size ≤ gb505)); have n3_ := Aside0.mk ((by rw [hg]; exact (below_size bwA) : w.heap.size ≤ gb505)); clear HB; have HB := n0_; have BK505 := n1_; have GW505 := n2_; have GE505 := n3_; clear n0_ n1_ n2_ n3_; clear hb hbox hg))
 (try simp only [Act.put, List.setIfInBounds_toArray, List.set_cons_zero, List.set_cons_succ])
 go_cut [21] (fun v21 wc => ∃ (kq : Nat) (x21_2 : Bool), v21 = .bool x21_2 ∧ Aside0 (caduceuslaw03_ValueBack.j0 kq a1 x21_2 a0_0 a0_1 a0_2 = some r) ∧ Aside0 (kq ≤ k) ∧ Aside0 (wc.heap[gb505]? = some (.cells #[.int .i64 a0_0, .int .i64 a0_1, .string a0_2] 25 (0, 0))) ∧ Aside0 (Below w.heap.size w wc))
 case first =>
  have H := HC3.out
  clear HC3
  replace H := Option.bind_eq_some_iff.mp H
  obtain ⟨t506, A50, H⟩ := H
  replace H : (if t506 = true then ((caduceuslaw03_few.f a1).bind fun t507 => (caduceuslaw03_ValueBack.j0 k a1 (!t507) a0_0 a0_1 a0_2)) else (caduceuslaw03_ValueBack.j0 k a1 true a0_0 a0_1 a0_2)) = some r := H
  have A5 := Aside0.mk A50
  clear A50
  by_cases c6 : t506 = true
  ·subst c6
   have H1 : ((caduceuslaw03_few.f a1).bind fun t507 => (caduceuslaw03_ValueBack.j0 k a1 (!t507) a0_0 a0_1 a0_2)) = some r := by rw [if_pos rfl] at H; exact H
   clear H
   have H := H1
   clear H1
   replace H := Option.bind_eq_some_iff.mp H
   obtain ⟨t507, A70, H⟩ := H
   replace H : (caduceuslaw03_ValueBack.j0 k a1 (!t507) a0_0 a0_1 a0_2) = some r := H
   have A7 := Aside0.mk A70
   clear A70
   have H' := Aside0.mk H
   clear H
   have hcz8_0 : w4.cell? ⟨gb505, 0, none⟩ = some (.int .i64 a0_0) := (blk_cell BK505.out 0).trans rfl
   have hcz8_1 : w4.cell? ⟨gb505, 1, none⟩ = some (.int .i64 a0_1) := (blk_cell BK505.out 1).trans rfl
   have hcz8_2 : w4.cell? ⟨gb505, 2, none⟩ = some (.string a0_2) := (blk_cell BK505.out 2).trans rfl
   have hfz8_0 := blk_frozen BK505.out 0
   have hfz8_1 := blk_frozen BK505.out 1
   have hfz8_2 := blk_frozen BK505.out 2
   go_wp2_with (first | ((with_reducible refine gate_callee (f := 15) rfl ?_); refine goesA (some 15) Tryd.func15 #[.string a0_2] ?_; (with_reducible refine (caduceuslaw03_few.calls a0_2 true _ A5.out).mono ?_); rintro e w' ⟨rfl, ⟨nd, rfl⟩⟩; refine ⟨_, rfl, ?_⟩) | (go_at_call 15; (with_reducible refine (caduceuslaw03_few.calls a1 t507 _ A7.out).mono ?_); rintro e w' ⟨rfl, ⟨nd, rfl⟩⟩))
   go_meet
   case rel => exact ⟨_, (!t507), (by first | rfl | (simp; done) | (simp [*]; done)), H', ⟨by first | omega | exact Nat.le_refl _⟩, ⟨by (with_reducible repeat (first | refine blk_drewN ?_ _ | refine blk_drew ?_ | refine blk_alloc ?_ _)); exact BK505.out⟩, ⟨by repeat (first | (with_reducible first | exact HB.out | apply below_alloc | apply pw_below_drewN | apply below_drew1 | refine below_set ?_ GE505.out) | exact HB.out)⟩⟩
  ·replace c6 := Bool.eq_false_iff.mpr c6
   subst c6
   have H1 : (caduceuslaw03_ValueBack.j0 k a1 true a0_0 a0_1 a0_2) = some r := by rw [if_neg (show ¬ (false = true) by decide)] at H; exact H
   clear H
   have H := H1
   clear H1
   have H' := Aside0.mk H
   clear H
   have hcz9_0 : w4.cell? ⟨gb505, 0, none⟩ = some (.int .i64 a0_0) := (blk_cell BK505.out 0).trans rfl
   have hcz9_1 : w4.cell? ⟨gb505, 1, none⟩ = some (.int .i64 a0_1) := (blk_cell BK505.out 1).trans rfl
   have hcz9_2 : w4.cell? ⟨gb505, 2, none⟩ = some (.string a0_2) := (blk_cell BK505.out 2).trans rfl
   have hfz9_0 := blk_frozen BK505.out 0
   have hfz9_1 := blk_frozen BK505.out 1
   have hfz9_2 := blk_frozen BK505.out 2
   go_wp2_with (first | ((with_reducible refine gate_callee (f := 15) rfl ?_); refine goesA (some 15) Tryd.func15 #[.string a0_2] ?_; (with_reducible refine (caduceuslaw03_few.calls a0_2 false _ A5.out).mono ?_); rintro e w' ⟨rfl, ⟨nd, rfl⟩⟩; refine ⟨_, rfl, ?_⟩))
   go_meet
   case rel => exact ⟨_, (true), (by first | rfl | (simp; done) | (simp [*]; done)), H', ⟨by first | omega | exact Nat.le_refl _⟩, ⟨by (with_reducible repeat (first | refine blk_drewN ?_ _ | refine blk_drew ?_ | refine blk_alloc ?_ _)); exact BK505.out⟩, ⟨by repeat (first | (with_reducible first | exact HB.out | apply below_alloc | apply pw_below_drewN | apply below_drew1 | refine below_set ?_ GE505.out) | exact HB.out)⟩⟩
 case rest =>
  clear HC3
  try clear c1
  try clear p2
  try clear c6
  try clear hcz8_0
  try clear hcz8_1
  try clear hcz8_2
  try clear hcz9_0
  try clear hcz9_1
  try clear hcz9_2
  try clear hfz8_0
  try clear hfz8_1
  try clear hfz8_2
  try clear hfz9_0
  try clear hfz9_1
  try clear hfz9_2
  obtain ⟨kq, x21_2, rfl, HA, HJ2, BK505, HB⟩ := hcut
  cases kq with
  | zero => exact absurd HA.out (by simp [caduceuslaw03_ValueBack.j0])
  | succ kj2 =>
   have H := HA.out
   clear HA
   simp only [caduceuslaw03_ValueBack.j0] at H
   by_cases c10 : x21_2 = true
   ·subst c10
    have H1 : ((caduceuslaw03_awake.f kj2).bind fun t508 => (some t508)) = some r := by rw [if_pos rfl] at H; exact H
    clear H
    have H := H1
    clear H1
    replace H := Option.bind_eq_some_iff.mp H
    obtain ⟨t508, A110, H⟩ := H
    replace H : (some t508) = some r := H
    have A11 := Aside0.mk A110
    clear A110
    obtain rfl := Option.some.inj H
    go_wp2_with (first | ((with_reducible refine gate_callee (f := 16) rfl ?_); refine goesA (some 22) Tryd.func16 #[] ?_; (with_reducible refine (caduceuslaw03_awake.calls kj2  t508 _ ?side1 A11.out).mono ?_); (case side1 => exact Tabs.below HT.out bwA); rintro e w12 ⟨rfl, hb⟩; refine ⟨_, rfl, ?_⟩; have n0_ := Aside0.mk (blk_below (g := gb505) (o := .cells #[.int .i64 a0_0, .int .i64 a0_1, .string a0_2] 25 (0, 0)) blkA hb); have n1_ := Aside0.mk (below_step bwA hb); clear BK505; clear HB; have BK505 := n0_; have HB := n1_; clear n0_ n1_; (try clear hb); (try clear hb2); (try clear hk); (try clear hi)))
    go_ret
    exact ⟨by first | rfl | (simp [errW_none, errW_some] <;> rfl) | (simp [*, errW_none, errW_some] <;> rfl), by repeat (first | (with_reducible first | exact HB.out | apply below_alloc | apply pw_below_drewN | apply below_drew1 | refine below_set ?_ GE505.out) | exact HB.out)⟩
   ·replace c10 := Bool.eq_false_iff.mpr c10
    subst c10
    have H1 : ((value_Check.f a0_0 a0_1 a0_2).bind fun t509 => (if t509 = true then ((value_Show.f kj2 a0_0 a0_1 a0_2).bind fun t513 => (if t513.size + 1 ≤ 9223372036854775807 then (if (t513 ++ (⟨#[32]⟩ : ByteArray)).size + a1.size ≤ 9223372036854775807 then ((value_Scan.f kj2 ((t513 ++ (⟨#[32]⟩ : ByteArray)) ++ a1)).bind fun bt514 => ((value_Text.f kj2 a0_0 a0_1 a0_2).bind fun t520 => (if t520.size + a1.size ≤ 9223372036854775807 then ((value_Read.f kj2 (t520 ++ a1)).bind fun bt521 => ((value_Show.f kj2 a0_0 a0_1 a0_2).bind fun t527 => ((value_Parse.f kj2 t527).bind fun bt528 => ((caduceuslaw03_awake.f kj2).bind fun t533 => (if t533 = true then (if bt514.2.2.2.2 = 0 then (if bt521.2.2.2.2 = 0 then (if bt528.2.2.2 = 0 then (if (bt514.1 == a0_0 && (bt514.2.1 == a0_1 && (bt514.2.2.1.toList == a0_2.toList))) = true then (if (bt521.1 == a0_0 && (bt521.2.1 == a0_1 && (bt521.2.2.1.toList == a0_2.toList))) = true then (if (bt528.1 == a0_0 && (bt528.2.1 == a0_1 && (bt528.2.2.1.toList == a0_2.toList))) = true then (if 1 + a1.size ≤ 9223372036854775807 then (if bt514.2.2.2.1.toList = ((⟨#[32]⟩ : ByteArray) ++ a1).toList then (some (bt521.2.2.2.1.toList == a1.toList)) else (none)) else (none)) else (none)) else (none)) else (none)) else (none)) else (none)) else (none)) else (none)))))) else (none)))) else (none)) else (none))) else ((caduceuslaw03_awake.f kj2).bind fun t510 => (if t510 = true then ((value_Show.f kj2 a0_0 a0_1 a0_2).bind fun t511 => (if t511.toList = ([] : List UInt8) then ((value_Text.f kj2 a0_0 a0_1 a0_2).bind fun t512 => (some (t512.toList == ([] : List UInt8)))) else (none))) else (none))))) = some r := by rw [if_neg (show ¬ (false = true) by decide)] at H; exact H
    clear H
    have H := H1
    clear H1
    replace H := Option.bind_eq_some_iff.mp H
    obtain ⟨t509, A130, H⟩ := H
    replace H : (if t509 = true then ((value_Show.f kj2 a0_0 a0_1 a0_2).bind fun t513 => (if t513.size + 1 ≤ 9223372036854775807 then (if (t513 ++ (⟨#[32]⟩ : ByteArray)).size + a1.size ≤ 9223372036854775807 then ((value_Scan.f kj2 ((t513 ++ (⟨#[32]⟩ : ByteArray)) ++ a1)).bind fun bt514 => ((value_Text.f kj2 a0_0 a0_1 a0_2).bind fun t520 => (if t520.size + a1.size ≤ 9223372036854775807 then ((value_Read.f kj2 (t520 ++ a1)).bind fun bt521 => ((value_Show.f kj2 a0_0 a0_1 a0_2).bind fun t527 => ((value_Parse.f kj2 t527).bind fun bt528 => ((caduceuslaw03_awake.f kj2).bind fun t533 => (if t533 = true then (if bt514.2.2.2.2 = 0 then (if bt521.2.2.2.2 = 0 then (if bt528.2.2.2 = 0 then (if (bt514.1 == a0_0 && (bt514.2.1 == a0_1 && (bt514.2.2.1.toList == a0_2.toList))) = true then (if (bt521.1 == a0_0 && (bt521.2.1 == a0_1 && (bt521.2.2.1.toList == a0_2.toList))) = true then (if (bt528.1 == a0_0 && (bt528.2.1 == a0_1 && (bt528.2.2.1.toList == a0_2.toList))) = true then (if 1 + a1.size ≤ 9223372036854775807 then (if bt514.2.2.2.1.toList = ((⟨#[32]⟩ : ByteArray) ++ a1).toList then (some (bt521.2.2.2.1.toList == a1.toList)) else (none)) else (none)) else (none)) else (none)) else (none)) else (none)) else (none)) else (none)) else (none)))))) else (none)))) else (none)) else (none))) else ((caduceuslaw03_awake.f kj2).bind fun t510 => (if t510 = true then ((value_Show.f kj2 a0_0 a0_1 a0_2).bind fun t511 => (if t511.toList = ([] : List UInt8) then ((value_Text.f kj2 a0_0 a0_1 a0_2).bind fun t512 => (some (t512.toList == ([] : List UInt8)))) else (none))) else (none)))) = some r := H
    have A13 := Aside0.mk A130
    clear A130
    by_cases c14 : t509 = true
    ·subst c14
     have H1 : ((value_Show.f kj2 a0_0 a0_1 a0_2).bind fun t513 => (if t513.size + 1 ≤ 9223372036854775807 then (if (t513 ++ (⟨#[32]⟩ : ByteArray)).size + a1.size ≤ 9223372036854775807 then ((value_Scan.f kj2 ((t513 ++ (⟨#[32]⟩ : ByteArray)) ++ a1)).bind fun bt514 => ((value_Text.f kj2 a0_0 a0_1 a0_2).bind fun t520 => (if t520.size + a1.size ≤ 9223372036854775807 then ((value_Read.f kj2 (t520 ++ a1)).bind fun bt521 => ((value_Show.f kj2 a0_0 a0_1 a0_2).bind fun t527 => ((value_Parse.f kj2 t527).bind fun bt528 => ((caduceuslaw03_awake.f kj2).bind fun t533 => (if t533 = true then (if bt514.2.2.2.2 = 0 then (if bt521.2.2.2.2 = 0 then (if bt528.2.2.2 = 0 then (if (bt514.1 == a0_0 && (bt514.2.1 == a0_1 && (bt514.2.2.1.toList == a0_2.toList))) = true then (if (bt521.1 == a0_0 && (bt521.2.1 == a0_1 && (bt521.2.2.1.toList == a0_2.toList))) = true then (if (bt528.1 == a0_0 && (bt528.2.1 == a0_1 && (bt528.2.2.1.toList == a0_2.toList))) = true then (if 1 + a1.size ≤ 9223372036854775807 then (if bt514.2.2.2.1.toList = ((⟨#[32]⟩ : ByteArray) ++ a1).toList then (some (bt521.2.2.2.1.toList == a1.toList)) else (none)) else (none)) else (none)) else (none)) else (none)) else (none)) else (none)) else (none)) else (none)))))) else (none)))) else (none)) else (none))) = some r := by rw [if_pos rfl] at H; exact H
     clear H
     have H := H1
     clear H1
     replace H := Option.bind_eq_some_iff.mp H
     obtain ⟨t513, A150, H⟩ := H
     replace H : (if t513.size + 1 ≤ 9223372036854775807 then (if (t513 ++ (⟨#[32]⟩ : ByteArray)).size + a1.size ≤ 9223372036854775807 then ((value_Scan.f kj2 ((t513 ++ (⟨#[32]⟩ : ByteArray)) ++ a1)).bind fun bt514 => ((value_Text.f kj2 a0_0 a0_1 a0_2).bind fun t520 => (if t520.size + a1.size ≤ 9223372036854775807 then ((value_Read.f kj2 (t520 ++ a1)).bind fun bt521 => ((value_Show.f kj2 a0_0 a0_1 a0_2).bind fun t527 => ((value_Parse.f kj2 t527).bind fun bt528 => ((caduceuslaw03_awake.f kj2).bind fun t533 => (if t533 = true then (if bt514.2.2.2.2 = 0 then (if bt521.2.2.2.2 = 0 then (if bt528.2.2.2 = 0 then (if (bt514.1 == a0_0 && (bt514.2.1 == a0_1 && (bt514.2.2.1.toList == a0_2.toList))) = true then (if (bt521.1 == a0_0 && (bt521.2.1 == a0_1 && (bt521.2.2.1.toList == a0_2.toList))) = true then (if (bt528.1 == a0_0 && (bt528.2.1 == a0_1 && (bt528.2.2.1.toList == a0_2.toList))) = true then (if 1 + a1.size ≤ 9223372036854775807 then (if bt514.2.2.2.1.toList = ((⟨#[32]⟩ : ByteArray) ++ a1).toList then (some (bt521.2.2.2.1.toList == a1.toList)) else (none)) else (none)) else (none)) else (none)) else (none)) else (none)) else (none)) else (none)) else (none)))))) else (none)))) else (none)) else (none)) = some r := H
     have A15 := Aside0.mk A150
     clear A150
     by_cases c16 : t513.size + 1 ≤ 9223372036854775807
     ·rw [if_pos c16] at H
      have c16b0 := eq_true c16
      have c16b1 : decide (t513.size + 1 ≤ 9223372036854775807) = true := decide_eq_true c16
      try have c16b2 : (9223372036854775807 < t513.size + 1) = False := eq_false (Nat.not_lt.2 c16)
      by_cases c17 : (t513 ++ (⟨#[32]⟩ : ByteArray)).size + a1.size ≤ 9223372036854775807
      ·rw [if_pos c17] at H
       have c17b0 := eq_true c17
       have c17b1 : decide ((t513 ++ (⟨#[32]⟩ : ByteArray)).size + a1.size ≤ 9223372036854775807) = true := decide_eq_true c17
       try have c17b2 : (9223372036854775807 < (t513 ++ (⟨#[32]⟩ : ByteArray)).size + a1.size) = False := eq_false (Nat.not_lt.2 c17)
       try have c17b3 : (9223372036854775807 < t513.size + 1 + a1.size) = False := eq_false (by have zz_ := c17; simp only [ByteArray.size_append] at zz_; have zy0_ : (⟨#[32]⟩ : ByteArray).size = 1 := rfl; omega)
       replace H := Option.bind_eq_some_iff.mp H
       obtain ⟨⟨t514, t515, t516, t517, t518⟩, A180, H⟩ := H
       replace H : ((value_Text.f kj2 a0_0 a0_1 a0_2).bind fun t520 => (if t520.size + a1.size ≤ 9223372036854775807 then ((value_Read.f kj2 (t520 ++ a1)).bind fun bt521 => ((value_Show.f kj2 a0_0 a0_1 a0_2).bind fun t527 => ((value_Parse.f kj2 t527).bind fun bt528 => ((caduceuslaw03_awake.f kj2).bind fun t533 => (if t533 = true then (if t518 = 0 then (if bt521.2.2.2.2 = 0 then (if bt528.2.2.2 = 0 then (if (t514 == a0_0 && (t515 == a0_1 && (t516.toList == a0_2.toList))) = true then (if (bt521.1 == a0_0 && (bt521.2.1 == a0_1 && (bt521.2.2.1.toList == a0_2.toList))) = true then (if (bt528.1 == a0_0 && (bt528.2.1 == a0_1 && (bt528.2.2.1.toList == a0_2.toList))) = true then (if 1 + a1.size ≤ 9223372036854775807 then (if t517.toList = ((⟨#[32]⟩ : ByteArray) ++ a1).toList then (some (bt521.2.2.2.1.toList == a1.toList)) else (none)) else (none)) else (none)) else (none)) else (none)) else (none)) else (none)) else (none)) else (none)))))) else (none))) = some r := H
       have A18 := Aside0.mk A180
       clear A180
       replace H := Option.bind_eq_some_iff.mp H
       obtain ⟨t520, A190, H⟩ := H
       replace H : (if t520.size + a1.size ≤ 9223372036854775807 then ((value_Read.f kj2 (t520 ++ a1)).bind fun bt521 => ((value_Show.f kj2 a0_0 a0_1 a0_2).bind fun t527 => ((value_Parse.f kj2 t527).bind fun bt528 => ((caduceuslaw03_awake.f kj2).bind fun t533 => (if t533 = true then (if t518 = 0 then (if bt521.2.2.2.2 = 0 then (if bt528.2.2.2 = 0 then (if (t514 == a0_0 && (t515 == a0_1 && (t516.toList == a0_2.toList))) = true then (if (bt521.1 == a0_0 && (bt521.2.1 == a0_1 && (bt521.2.2.1.toList == a0_2.toList))) = true then (if (bt528.1 == a0_0 && (bt528.2.1 == a0_1 && (bt528.2.2.1.toList == a0_2.toList))) = true then (if 1 + a1.size ≤ 9223372036854775807 then (if t517.toList = ((⟨#[32]⟩ : ByteArray) ++ a1).toList then (some (bt521.2.2.2.1.toList == a1.toList)) else (none)) else (none)) else (none)) else (none)) else (none)) else (none)) else (none)) else (none)) else (none)))))) else (none)) = some r := H
       have A19 := Aside0.mk A190
       clear A190
       by_cases c20 : t520.size + a1.size ≤ 9223372036854775807
       ·rw [if_pos c20] at H
        have c20b0 := eq_true c20
        have c20b1 : decide (t520.size + a1.size ≤ 9223372036854775807) = true := decide_eq_true c20
        try have c20b2 : (9223372036854775807 < t520.size + a1.size) = False := eq_false (Nat.not_lt.2 c20)
        replace H := Option.bind_eq_some_iff.mp H
        obtain ⟨⟨t521, t522, t523, t524, t525⟩, A210, H⟩ := H
        replace H : ((value_Show.f kj2 a0_0 a0_1 a0_2).bind fun t527 => ((value_Parse.f kj2 t527).bind fun bt528 => ((caduceuslaw03_awake.f kj2).bind fun t533 => (if t533 = true then (if t518 = 0 then (if t525 = 0 then (if bt528.2.2.2 = 0 then (if (t514 == a0_0 && (t515 == a0_1 && (t516.toList == a0_2.toList))) = true then (if (t521 == a0_0 && (t522 == a0_1 && (t523.toList == a0_2.toList))) = true then (if (bt528.1 == a0_0 && (bt528.2.1 == a0_1 && (bt528.2.2.1.toList == a0_2.toList))) = true then (if 1 + a1.size ≤ 9223372036854775807 then (if t517.toList = ((⟨#[32]⟩ : ByteArray) ++ a1).toList then (some (t524.toList == a1.toList)) else (none)) else (none)) else (none)) else (none)) else (none)) else (none)) else (none)) else (none)) else (none))))) = some r := H
        have A21 := Aside0.mk A210
        clear A210
        replace H := Option.bind_eq_some_iff.mp H
        obtain ⟨t527, A220, H⟩ := H
        replace H : ((value_Parse.f kj2 t527).bind fun bt528 => ((caduceuslaw03_awake.f kj2).bind fun t533 => (if t533 = true then (if t518 = 0 then (if t525 = 0 then (if bt528.2.2.2 = 0 then (if (t514 == a0_0 && (t515 == a0_1 && (t516.toList == a0_2.toList))) = true then (if (t521 == a0_0 && (t522 == a0_1 && (t523.toList == a0_2.toList))) = true then (if (bt528.1 == a0_0 && (bt528.2.1 == a0_1 && (bt528.2.2.1.toList == a0_2.toList))) = true then (if 1 + a1.size ≤ 9223372036854775807 then (if t517.toList = ((⟨#[32]⟩ : ByteArray) ++ a1).toList then (some (t524.toList == a1.toList)) else (none)) else (none)) else (none)) else (none)) else (none)) else (none)) else (none)) else (none)) else (none)))) = some r := H
        have A22 := Aside0.mk A220
        clear A220
        replace H := Option.bind_eq_some_iff.mp H
        obtain ⟨⟨t528, t529, t530, t531⟩, A230, H⟩ := H
        replace H : ((caduceuslaw03_awake.f kj2).bind fun t533 => (if t533 = true then (if t518 = 0 then (if t525 = 0 then (if t531 = 0 then (if (t514 == a0_0 && (t515 == a0_1 && (t516.toList == a0_2.toList))) = true then (if (t521 == a0_0 && (t522 == a0_1 && (t523.toList == a0_2.toList))) = true then (if (t528 == a0_0 && (t529 == a0_1 && (t530.toList == a0_2.toList))) = true then (if 1 + a1.size ≤ 9223372036854775807 then (if t517.toList = ((⟨#[32]⟩ : ByteArray) ++ a1).toList then (some (t524.toList == a1.toList)) else (none)) else (none)) else (none)) else (none)) else (none)) else (none)) else (none)) else (none)) else (none))) = some r := H
        have A23 := Aside0.mk A230
        clear A230
        replace H := Option.bind_eq_some_iff.mp H
        obtain ⟨t533, A240, H⟩ := H
        replace H : (if t533 = true then (if t518 = 0 then (if t525 = 0 then (if t531 = 0 then (if (t514 == a0_0 && (t515 == a0_1 && (t516.toList == a0_2.toList))) = true then (if (t521 == a0_0 && (t522 == a0_1 && (t523.toList == a0_2.toList))) = true then (if (t528 == a0_0 && (t529 == a0_1 && (t530.toList == a0_2.toList))) = true then (if 1 + a1.size ≤ 9223372036854775807 then (if t517.toList = ((⟨#[32]⟩ : ByteArray) ++ a1).toList then (some (t524.toList == a1.toList)) else (none)) else (none)) else (none)) else (none)) else (none)) else (none)) else (none)) else (none)) else (none)) = some r := H
        have A24 := Aside0.mk A240
        clear A240
        by_cases c25 : t533 = true
        ·subst c25
         have H1 : (if t518 = 0 then (if t525 = 0 then (if t531 = 0 then (if (t514 == a0_0 && (t515 == a0_1 && (t516.toList == a0_2.toList))) = true then (if (t521 == a0_0 && (t522 == a0_1 && (t523.toList == a0_2.toList))) = true then (if (t528 == a0_0 && (t529 == a0_1 && (t530.toList == a0_2.toList))) = true then (if 1 + a1.size ≤ 9223372036854775807 then (if t517.toList = ((⟨#[32]⟩ : ByteArray) ++ a1).toList then (some (t524.toList == a1.toList)) else (none)) else (none)) else (none)) else (none)) else (none)) else (none)) else (none)) else (none)) = some r := by rw [if_pos rfl] at H; exact H
         clear H
         have H := H1
         clear H1
         by_cases c26 : t518 = 0
         ·rw [if_pos c26] at H
          have c26b0 : (t518 == 0) = true := beq_iff_eq.mpr c26
          have c26b1 : (t518 != 0) = false := bne_eq_false_iff_eq.mpr c26
          clear c26
          by_cases c27 : t525 = 0
          ·rw [if_pos c27] at H
           have c27b0 : (t525 == 0) = true := beq_iff_eq.mpr c27
           have c27b1 : (t525 != 0) = false := bne_eq_false_iff_eq.mpr c27
           clear c27
           by_cases c28 : t531 = 0
           ·rw [if_pos c28] at H
            have c28b0 : (t531 == 0) = true := beq_iff_eq.mpr c28
            have c28b1 : (t531 != 0) = false := bne_eq_false_iff_eq.mpr c28
            clear c28
            by_cases c29 : (t514 == a0_0 && (t515 == a0_1 && (t516.toList == a0_2.toList))) = true
            ·rw [if_pos c29] at H
             have c29b0 : (t514 == a0_0 && (t515 == a0_1 && (t516.toList == a0_2.toList))) = true := c29
             (try (have c29b1 : decide (t514 = a0_0 && (t515 == a0_1 && (t516.toList == a0_2.toList))) = true := by simpa using c29))
             (try (have c29b2 : (t514 == a0_0 && (t515 == a0_1 && (t516.toList == a0_2.toList))) = true := by simpa using c29))
             clear c29
             by_cases c30 : (t521 == a0_0 && (t522 == a0_1 && (t523.toList == a0_2.toList))) = true
             ·rw [if_pos c30] at H
              have c30b0 : (t521 == a0_0 && (t522 == a0_1 && (t523.toList == a0_2.toList))) = true := c30
              (try (have c30b1 : decide (t521 = a0_0 && (t522 == a0_1 && (t523.toList == a0_2.toList))) = true := by simpa using c30))
              (try (have c30b2 : (t521 == a0_0 && (t522 == a0_1 && (t523.toList == a0_2.toList))) = true := by simpa using c30))
              clear c30
              by_cases c31 : (t528 == a0_0 && (t529 == a0_1 && (t530.toList == a0_2.toList))) = true
              ·rw [if_pos c31] at H
               have c31b0 : (t528 == a0_0 && (t529 == a0_1 && (t530.toList == a0_2.toList))) = true := c31
               (try (have c31b1 : decide (t528 = a0_0 && (t529 == a0_1 && (t530.toList == a0_2.toList))) = true := by simpa using c31))
               (try (have c31b2 : (t528 == a0_0 && (t529 == a0_1 && (t530.toList == a0_2.toList))) = true := by simpa using c31))
               clear c31
               by_cases c32 : 1 + a1.size ≤ 9223372036854775807
               ·rw [if_pos c32] at H
                have c32b0 := eq_true c32
                have c32b1 : decide (1 + a1.size ≤ 9223372036854775807) = true := decide_eq_true c32
                try have c32b2 : (9223372036854775807 < 1 + a1.size) = False := eq_false (Nat.not_lt.2 c32)
                by_cases c33 : t517.toList = ((⟨#[32]⟩ : ByteArray) ++ a1).toList
                ·rw [if_pos c33] at H
                 have c33b0 : (t517.toList == ((⟨#[32]⟩ : ByteArray) ++ a1).toList) = true := beq_iff_eq.mpr c33
                 have c33b1 : (t517.toList != ((⟨#[32]⟩ : ByteArray) ++ a1).toList) = false := bne_eq_false_iff_eq.mpr c33
                 clear c33
                 obtain rfl := Option.some.inj H
                 have hcz34_0 : wc.cell? ⟨gb505, 0, none⟩ = some (.int .i64 a0_0) := (blk_cell BK505.out 0).trans rfl
                 have hcz34_1 : wc.cell? ⟨gb505, 1, none⟩ = some (.int .i64 a0_1) := (blk_cell BK505.out 1).trans rfl
                 have hcz34_2 : wc.cell? ⟨gb505, 2, none⟩ = some (.string a0_2) := (blk_cell BK505.out 2).trans rfl
                 have hfz34_0 := blk_frozen BK505.out 0
                 have hfz34_1 := blk_frozen BK505.out 1
                 have hfz34_2 := blk_frozen BK505.out 2
                 go_wp2_with (first | ((with_reducible refine gate_callee (f := 28) rfl ?_); refine goesA (some 24) Tryd.func28 #[.agg #[.int .i64 a0_0, .int .i64 a0_1, .string a0_2]] ?_; (with_reducible refine (value_Check.calls a0_0 a0_1 a0_2 true _ ?side1 A13.out).mono ?_); (case side1 => exact Tabs.below HT.out bwA); rintro e w35 ⟨rfl, hb⟩; refine ⟨_, rfl, ?_⟩; have n0_ := Aside0.mk (blk_below (g := gb505) (o := .cells #[.int .i64 a0_0, .int .i64 a0_1, .string a0_2] 25 (0, 0)) blkA hb); have n1_ := Aside0.mk (below_step bwA hb); clear BK505; clear HB; have BK505 := n0_; have HB := n1_; clear n0_ n1_; (try clear hb); (try clear hb2); (try clear hk); (try clear hi); have hcz36_0 : w35.cell? ⟨gb505, 0, none⟩ = some (.int .i64 a0_0) := (blk_cell BK505.out 0).trans rfl; have hcz36_1 : w35.cell? ⟨gb505, 1, none⟩ = some (.int .i64 a0_1) := (blk_cell BK505.out 1).trans rfl; have hcz36_2 : w35.cell? ⟨gb505, 2, none⟩ = some (.string a0_2) := (blk_cell BK505.out 2).trans rfl; have hfz36_0 := blk_frozen BK505.out 0; have hfz36_1 := blk_frozen BK505.out 1; have hfz36_2 := blk_frozen BK505.out 2) | ((with_reducible refine gate_callee (f := 39) rfl ?_); refine goesA (some 39) Tryd.func39 #[.agg #[.int .i64 a0_0, .int .i64 a0_1, .string a0_2]] ?_; (with_reducible refine (value_Show.calls kj2 a0_0 a0_1 a0_2 t513 _ ?side1 A15.out).mono ?_); (case side1 => exact Tabs.below HT.out bwA); rintro e w37 ⟨rfl, hb⟩; refine ⟨_, rfl, ?_⟩; have n0_ := Aside0.mk (blk_below (g := gb505) (o := .cells #[.int .i64 a0_0, .int .i64 a0_1, .string a0_2] 25 (0, 0)) blkA hb); have n1_ := Aside0.mk (below_step bwA hb); clear BK505; clear HB; have BK505 := n0_; have HB := n1_; clear n0_ n1_; (try clear hb); (try clear hb2); (try clear hk); (try clear hi)) | ((with_reducible refine gate_callee (f := 17) rfl ?_); refine goesA (some 43) Tryd.func17 #[.string ((t513 ++ (⟨#[32]⟩ : ByteArray)) ++ a1)] ?_; (with_reducible refine (value_Scan.calls kj2 ((t513 ++ (⟨#[32]⟩ : ByteArray)) ++ a1) t514 t515 t516 t517 t518 _ ?side1 A18.out).mono ?_); (case side1 => exact Tabs.below HT.out bwA); rintro e w38 ⟨rfl, hb⟩; refine ⟨_, rfl, ?_⟩; have n0_ := Aside0.mk (blk_below (g := gb505) (o := .cells #[.int .i64 a0_0, .int .i64 a0_1, .string a0_2] 25 (0, 0)) blkA hb); have n1_ := Aside0.mk (below_step bwA hb); clear BK505; clear HB; have BK505 := n0_; have HB := n1_; clear n0_ n1_; (try clear hb); (try clear hb2); (try clear hk); (try clear hi)) | ((with_reducible refine gate_dst (N := 5) rfl ?_); refine box_event ?hg (N := 5) ?hd (cs := #[.int .i64 0, .int .i64 0, .string (⟨#[]⟩ : ByteArray)]) (t := 25) ?hr ?_; (case hd => rfl); (case hg => rfl); (case hr => first | (go_simp; done) | (go_simp; rfl)); intro gb519 hg w39 hbox hb; have n0_ := Aside0.mk (blk_below (g := gb505) (o := .cells #[.int .i64 a0_0, .int .i64 a0_1, .string a0_2] 25 (0, 0)) blkA hb); have n1_ := Aside0.mk (below_step bwA hb); have n2_ := Aside0.mk (hbox); have n3_ := Aside0.mk ((by rw [hg]; exact (below_size bwA) : w.heap.size ≤ gb519)); have n4_ := Aside0.mk ((by rw [hg]; exact (below_size bwA) : w.heap.size ≤ gb519)); have n5_ := Aside0.mk ((by rw [hg]; exact Nat.ne_of_lt (blk_lt (g := gb505) (o := .cells #[.int .i64 a0_0, .int .i64 a0_1, .string a0_2] 25 (0, 0)) blkA) : gb505 ≠ gb519)); have n6_ := Aside0.mk ((by rw [hg]; exact Nat.ne_of_gt (blk_lt (g := gb505) (o := .cells #[.int .i64 a0_0, .int .i64 a0_1, .string a0_2] 25 (0, 0)) blkA) : gb519 ≠ gb505)); clear BK505; clear HB; have BK505 := n0_; have HB := n1_; have BK519 := n2_; have GW519 := n3_; have GE519 := n4_; have NB505_519 := n5_; have NB519_505 := n6_; clear n0_ n1_ n2_ n3_ n4_ n5_ n6_; clear hb hbox hg; have hnb40 := NB519_505.out; have hnc40 := NB505_519.out; have hcz41_0 : w39.cell? ⟨gb519, 0, none⟩ = some (.int .i64 0) := (blk_cell BK519.out 0).trans rfl; have hcz41_1 : w39.cell? ⟨gb519, 1, none⟩ = some (.int .i64 0) := (blk_cell BK519.out 1).trans rfl; have hcz41_2 : w39.cell? ⟨gb519, 2, none⟩ = some (.string (⟨#[]⟩ : ByteArray)) := (blk_cell BK519.out 2).trans rfl; have hfz41_0 := blk_frozen BK519.out 0; have hfz41_1 := blk_frozen BK519.out 1; have hfz41_2 := blk_frozen BK519.out 2; have hcz42_0 : w39.cell? ⟨gb505, 0, none⟩ = some (.int .i64 a0_0) := (blk_cell BK505.out 0).trans rfl; have hcz42_1 : w39.cell? ⟨gb505, 1, none⟩ = some (.int .i64 a0_1) := (blk_cell BK505.out 1).trans rfl; have hcz42_2 : w39.cell? ⟨gb505, 2, none⟩ = some (.string a0_2) := (blk_cell BK505.out 2).trans rfl; have hfz42_0 := blk_frozen BK505.out 0; have hfz42_1 := blk_frozen BK505.out 1; have hfz42_2 := blk_frozen BK505.out 2) | ((with_reducible refine gate_callee (f := 40) rfl ?_); refine goesA (some 49) Tryd.func40 #[.agg #[.int .i64 a0_0, .int .i64 a0_1, .string a0_2]] ?_; (with_reducible refine (value_Text.calls kj2 a0_0 a0_1 a0_2 t520 _ ?side1 A19.out).mono ?_); (case side1 => exact Tabs.below HT.out bwA); rintro e w43 ⟨rfl, hb⟩; refine ⟨_, rfl, ?_⟩; have n0_ := Aside0.mk (blk_below (g := gb505) (o := .cells #[.int .i64 a0_0, .int .i64 a0_1, .string a0_2] 25 (0, 0)) (by (with_reducible repeat (first | refine blk_drewN ?_ _ | refine blk_drew ?_ | refine blk_alloc ?_ _)); refine blk_far ?_ NB505_519.out _; (with_reducible repeat (first | refine blk_drewN ?_ _ | refine blk_drew ?_ | refine blk_alloc ?_ _)); refine blk_far ?_ NB505_519.out _; (with_reducible repeat (first | refine blk_drewN ?_ _ | refine blk_drew ?_ | refine blk_alloc ?_ _)); refine blk_far ?_ NB505_519.out _; (with_reducible repeat (first | refine blk_drewN ?_ _ | refine blk_drew ?_ | refine blk_alloc ?_ _)); exact BK505.out) hb); have n1_ := Aside0.mk (blk_below (g := gb519) (o := .cells #[.int .i64 t514, .int .i64 t515, .string t516] 25 (0, 0)) (by (with_reducible repeat (first | refine blk_drewN ?_ _ | refine blk_drew ?_ | refine blk_alloc ?_ _)); refine blk_put (cs := #[.int .i64 t514, .int .i64 t515, .string (⟨#[]⟩ : ByteArray)]) ?_ 2 _ rfl; (with_reducible repeat (first | refine blk_drewN ?_ _ | refine blk_drew ?_ | refine blk_alloc ?_ _)); refine blk_put (cs := #[.int .i64 t514, .int .i64 0, .string (⟨#[]⟩ : ByteArray)]) ?_ 1 _ rfl; (with_reducible repeat (first | refine blk_drewN ?_ _ | refine blk_drew ?_ | refine blk_alloc ?_ _)); refine blk_put (cs := #[.int .i64 0, .int .i64 0, .string (⟨#[]⟩ : ByteArray)]) ?_ 0 _ rfl; (with_reducible repeat (first | refine blk_drewN ?_ _ | refine blk_drew ?_ | refine blk_alloc ?_ _)); exact BK519.out) hb); have n2_ := Aside0.mk (below_step bwA hb); clear BK505; clear BK519; clear HB; have BK505 := n0_; have BK519 := n1_; have HB := n2_; clear n0_ n1_ n2_; (try clear hb); (try clear hb2); (try clear hk); (try clear hi)) | ((with_reducible refine gate_callee (f := 35) rfl ?_); refine goesA (some 52) Tryd.func35 #[.string (t520 ++ a1)] ?_; (with_reducible refine (value_Read.calls kj2 (t520 ++ a1) t521 t522 t523 t524 t525 _ ?side1 A21.out).mono ?_); (case side1 => exact Tabs.below HT.out bwA); rintro e w44 ⟨rfl, hb⟩; refine ⟨_, rfl, ?_⟩; have n0_ := Aside0.mk (blk_below (g := gb505) (o := .cells #[.int .i64 a0_0, .int .i64 a0_1, .string a0_2] 25 (0, 0)) blkA hb); have n1_ := Aside0.mk (blk_below (g := gb519) (o := .cells #[.int .i64 t514, .int .i64 t515, .string t516] 25 (0, 0)) blkA hb); have n2_ := Aside0.mk (below_step bwA hb); clear BK505; clear BK519; clear HB; have BK505 := n0_; have BK519 := n1_; have HB := n2_; clear n0_ n1_ n2_; (try clear hb); (try clear hb2); (try clear hk); (try clear hi)) | ((with_reducible refine gate_dst (N := 8) rfl ?_); refine box_event ?hg (N := 8) ?hd (cs := #[.int .i64 0, .int .i64 0, .string (⟨#[]⟩ : ByteArray)]) (t := 25) ?hr ?_; (case hd => rfl); (case hg => rfl); (case hr => first | (go_simp; done) | (go_simp; rfl)); intro gb526 hg w45 hbox hb; have n0_ := Aside0.mk (blk_below (g := gb505) (o := .cells #[.int .i64 a0_0, .int .i64 a0_1, .string a0_2] 25 (0, 0)) blkA hb); have n1_ := Aside0.mk (blk_below (g := gb519) (o := .cells #[.int .i64 t514, .int .i64 t515, .string t516] 25 (0, 0)) blkA hb); have n2_ := Aside0.mk (below_step bwA hb); have n3_ := Aside0.mk (hbox); have n4_ := Aside0.mk ((by rw [hg]; exact (below_size bwA) : w.heap.size ≤ gb526)); have n5_ := Aside0.mk ((by rw [hg]; exact (below_size bwA) : w.heap.size ≤ gb526)); have n6_ := Aside0.mk ((by rw [hg]; exact Nat.ne_of_lt (blk_lt (g := gb505) (o := .cells #[.int .i64 a0_0, .int .i64 a0_1, .string a0_2] 25 (0, 0)) blkA) : gb505 ≠ gb526)); have n7_ := Aside0.mk ((by rw [hg]; exact Nat.ne_of_gt (blk_lt (g := gb505) (o := .cells #[.int .i64 a0_0, .int .i64 a0_1, .string a0_2] 25 (0, 0)) blkA) : gb526 ≠ gb505)); have n8_ := Aside0.mk ((by rw [hg]; exact Nat.ne_of_lt (blk_lt (g := gb519) (o := .cells #[.int .i64 t514, .int .i64 t515, .string t516] 25 (0, 0)) blkA) : gb519 ≠ gb526)); have n9_ := Aside0.mk ((by rw [hg]; exact Nat.ne_of_gt (blk_lt (g := gb519) (o := .cells #[.int .i64 t514, .int .i64 t515, .string t516] 25 (0, 0)) blkA) : gb526 ≠ gb519)); clear BK505; clear BK519; clear HB; have BK505 := n0_; have BK519 := n1_; have HB := n2_; have BK526 := n3_; have GW526 := n4_; have GE526 := n5_; have NB505_526 := n6_; have NB526_505 := n7_; have NB519_526 := n8_; have NB526_519 := n9_; clear n0_ n1_ n2_ n3_ n4_ n5_ n6_ n7_ n8_ n9_; clear hb hbox hg; have hnb46 := NB526_505.out; have hnc46 := NB505_526.out; have hnb47 := NB526_519.out; have hnc47 := NB519_526.out; have hcz48_0 : w45.cell? ⟨gb526, 0, none⟩ = some (.int .i64 0) := (blk_cell BK526.out 0).trans rfl; have hcz48_1 : w45.cell? ⟨gb526, 1, none⟩ = some (.int .i64 0) := (blk_cell BK526.out 1).trans rfl; have hcz48_2 : w45.cell? ⟨gb526, 2, none⟩ = some (.string (⟨#[]⟩ : ByteArray)) := (blk_cell BK526.out 2).trans rfl; have hfz48_0 := blk_frozen BK526.out 0; have hfz48_1 := blk_frozen BK526.out 1; have hfz48_2 := blk_frozen BK526.out 2; have hcz49_0 : w45.cell? ⟨gb505, 0, none⟩ = some (.int .i64 a0_0) := (blk_cell BK505.out 0).trans rfl; have hcz49_1 : w45.cell? ⟨gb505, 1, none⟩ = some (.int .i64 a0_1) := (blk_cell BK505.out 1).trans rfl; have hcz49_2 : w45.cell? ⟨gb505, 2, none⟩ = some (.string a0_2) := (blk_cell BK505.out 2).trans rfl; have hfz49_0 := blk_frozen BK505.out 0; have hfz49_1 := blk_frozen BK505.out 1; have hfz49_2 := blk_frozen BK505.out 2) | ((with_reducible refine gate_callee (f := 39) rfl ?_); refine goesA (some 58) Tryd.func39 #[.agg #[.int .i64 a0_0, .int .i64 a0_1, .string a0_2]] ?_; (with_reducible refine (value_Show.calls kj2 a0_0 a0_1 a0_2 t527 _ ?side1 A22.out).mono ?_); (case side1 => exact Tabs.below HT.out bwA); rintro e w50 ⟨rfl, hb⟩; refine ⟨_, rfl, ?_⟩; have n0_ := Aside0.mk (blk_below (g := gb505) (o := .cells #[.int .i64 a0_0, .int .i64 a0_1, .string a0_2] 25 (0, 0)) (by (with_reducible repeat (first | refine blk_drewN ?_ _ | refine blk_drew ?_ | refine blk_alloc ?_ _)); refine blk_far ?_ NB505_526.out _; (with_reducible repeat (first | refine blk_drewN ?_ _ | refine blk_drew ?_ | refine blk_alloc ?_ _)); refine blk_far ?_ NB505_526.out _; (with_reducible repeat (first | refine blk_drewN ?_ _ | refine blk_drew ?_ | refine blk_alloc ?_ _)); refine blk_far ?_ NB505_526.out _; (with_reducible repeat (first | refine blk_drewN ?_ _ | refine blk_drew ?_ | refine blk_alloc ?_ _)); exact BK505.out) hb); have n1_ := Aside0.mk (blk_below (g := gb519) (o := .cells #[.int .i64 t514, .int .i64 t515, .string t516] 25 (0, 0)) (by (with_reducible repeat (first | refine blk_drewN ?_ _ | refine blk_drew ?_ | refine blk_alloc ?_ _)); refine blk_far ?_ NB519_526.out _; (with_reducible repeat (first | refine blk_drewN ?_ _ | refine blk_drew ?_ | refine blk_alloc ?_ _)); refine blk_far ?_ NB519_526.out _; (with_reducible repeat (first | refine blk_drewN ?_ _ | refine blk_drew ?_ | refine blk_alloc ?_ _)); refine blk_far ?_ NB519_526.out _; (with_reducible repeat (first | refine blk_drewN ?_ _ | refine blk_drew ?_ | refine blk_alloc ?_ _)); exact BK519.out) hb); have n2_ := Aside0.mk (blk_below (g := gb526) (o := .cells #[.int .i64 t521, .int .i64 t522, .string t523] 25 (0, 0)) (by (with_reducible repeat (first | refine blk_drewN ?_ _ | refine blk_drew ?_ | refine blk_alloc ?_ _)); refine blk_put (cs := #[.int .i64 t521, .int .i64 t522, .string (⟨#[]⟩ : ByteArray)]) ?_ 2 _ rfl; (with_reducible repeat (first | refine blk_drewN ?_ _ | refine blk_drew ?_ | refine blk_alloc ?_ _)); refine blk_put (cs := #[.int .i64 t521, .int .i64 0, .string (⟨#[]⟩ : ByteArray)]) ?_ 1 _ rfl; (with_reducible repeat (first | refine blk_drewN ?_ _ | refine blk_drew ?_ | refine blk_alloc ?_ _)); refine blk_put (cs := #[.int .i64 0, .int .i64 0, .string (⟨#[]⟩ : ByteArray)]) ?_ 0 _ rfl; (with_reducible repeat (first | refine blk_drewN ?_ _ | refine blk_drew ?_ | refine blk_alloc ?_ _)); exact BK526.out) hb); have n3_ := Aside0.mk (below_step bwA hb); clear BK505; clear BK519; clear BK526; clear HB; have BK505 := n0_; have BK519 := n1_; have BK526 := n2_; have HB := n3_; clear n0_ n1_ n2_ n3_; (try clear hb); (try clear hb2); (try clear hk); (try clear hi)) | ((with_reducible refine gate_callee (f := 19) rfl ?_); refine goesA (some 59) Tryd.func19 #[.string t527] ?_; (with_reducible refine (value_Parse.calls kj2 t527 t528 t529 t530 t531 _ ?side1 A23.out).mono ?_); (case side1 => exact Tabs.below HT.out bwA); rintro e w51 ⟨rfl, hb⟩; refine ⟨_, rfl, ?_⟩; have n0_ := Aside0.mk (blk_below (g := gb505) (o := .cells #[.int .i64 a0_0, .int .i64 a0_1, .string a0_2] 25 (0, 0)) blkA hb); have n1_ := Aside0.mk (blk_below (g := gb519) (o := .cells #[.int .i64 t514, .int .i64 t515, .string t516] 25 (0, 0)) blkA hb); have n2_ := Aside0.mk (blk_below (g := gb526) (o := .cells #[.int .i64 t521, .int .i64 t522, .string t523] 25 (0, 0)) blkA hb); have n3_ := Aside0.mk (below_step bwA hb); clear BK505; clear BK519; clear BK526; clear HB; have BK505 := n0_; have BK519 := n1_; have BK526 := n2_; have HB := n3_; clear n0_ n1_ n2_ n3_; (try clear hb); (try clear hb2); (try clear hk); (try clear hi)) | ((with_reducible refine gate_dst (N := 11) rfl ?_); refine box_event ?hg (N := 11) ?hd (cs := #[.int .i64 0, .int .i64 0, .string (⟨#[]⟩ : ByteArray)]) (t := 25) ?hr ?_; (case hd => rfl); (case hg => rfl); (case hr => first | (go_simp; done) | (go_simp; rfl)); intro gb532 hg w52 hbox hb; have n0_ := Aside0.mk (blk_below (g := gb505) (o := .cells #[.int .i64 a0_0, .int .i64 a0_1, .string a0_2] 25 (0, 0)) blkA hb); have n1_ := Aside0.mk (blk_below (g := gb519) (o := .cells #[.int .i64 t514, .int .i64 t515, .string t516] 25 (0, 0)) blkA hb); have n2_ := Aside0.mk (blk_below (g := gb526) (o := .cells #[.int .i64 t521, .int .i64 t522, .string t523] 25 (0, 0)) blkA hb); have n3_ := Aside0.mk (below_step bwA hb); have n4_ := Aside0.mk (hbox); have n5_ := Aside0.mk ((by rw [hg]; exact (below_size bwA) : w.heap.size ≤ gb532)); have n6_ := Aside0.mk ((by rw [hg]; exact (below_size bwA) : w.heap.size ≤ gb532)); have n7_ := Aside0.mk ((by rw [hg]; exact Nat.ne_of_lt (blk_lt (g := gb505) (o := .cells #[.int .i64 a0_0, .int .i64 a0_1, .string a0_2] 25 (0, 0)) blkA) : gb505 ≠ gb532)); have n8_ := Aside0.mk ((by rw [hg]; exact Nat.ne_of_gt (blk_lt (g := gb505) (o := .cells #[.int .i64 a0_0, .int .i64 a0_1, .string a0_2] 25 (0, 0)) blkA) : gb532 ≠ gb505)); have n9_ := Aside0.mk ((by rw [hg]; exact Nat.ne_of_lt (blk_lt (g := gb519) (o := .cells #[.int .i64 t514, .int .i64 t515, .string t516] 25 (0, 0)) blkA) : gb519 ≠ gb532)); have n10_ := Aside0.mk ((by rw [hg]; exact Nat.ne_of_gt (blk_lt (g := gb519) (o := .cells #[.int .i64 t514, .int .i64 t515, .string t516] 25 (0, 0)) blkA) : gb532 ≠ gb519)); have n11_ := Aside0.mk ((by rw [hg]; exact Nat.ne_of_lt (blk_lt (g := gb526) (o := .cells #[.int .i64 t521, .int .i64 t522, .string t523] 25 (0, 0)) blkA) : gb526 ≠ gb532)); have n12_ := Aside0.mk ((by rw [hg]; exact Nat.ne_of_gt (blk_lt (g := gb526) (o := .cells #[.int .i64 t521, .int .i64 t522, .string t523] 25 (0, 0)) blkA) : gb532 ≠ gb526)); clear BK505; clear BK519; clear BK526; clear HB; have BK505 := n0_; have BK519 := n1_; have BK526 := n2_; have HB := n3_; have BK532 := n4_; have GW532 := n5_; have GE532 := n6_; have NB505_532 := n7_; have NB532_505 := n8_; have NB519_532 := n9_; have NB532_519 := n10_; have NB526_532 := n11_; have NB532_526 := n12_; clear n0_ n1_ n2_ n3_ n4_ n5_ n6_ n7_ n8_ n9_ n10_ n11_ n12_; clear hb hbox hg; have hnb53 := NB532_505.out; have hnc53 := NB505_532.out; have hnb54 := NB532_519.out; have hnc54 := NB519_532.out; have hnb55 := NB532_526.out; have hnc55 := NB526_532.out; have hcz56_0 : w52.cell? ⟨gb532, 0, none⟩ = some (.int .i64 0) := (blk_cell BK532.out 0).trans rfl; have hcz56_1 : w52.cell? ⟨gb532, 1, none⟩ = some (.int .i64 0) := (blk_cell BK532.out 1).trans rfl; have hcz56_2 : w52.cell? ⟨gb532, 2, none⟩ = some (.string (⟨#[]⟩ : ByteArray)) := (blk_cell BK532.out 2).trans rfl; have hfz56_0 := blk_frozen BK532.out 0; have hfz56_1 := blk_frozen BK532.out 1; have hfz56_2 := blk_frozen BK532.out 2) | ((with_reducible refine gate_callee (f := 16) rfl ?_); refine goesA (some 62) Tryd.func16 #[] ?_; (with_reducible refine (caduceuslaw03_awake.calls kj2  true _ ?side1 A24.out).mono ?_); (case side1 => exact Tabs.below HT.out bwA); rintro e w57 ⟨rfl, hb⟩; refine ⟨_, rfl, ?_⟩; have n0_ := Aside0.mk (blk_below (g := gb505) (o := .cells #[.int .i64 a0_0, .int .i64 a0_1, .string a0_2] 25 (0, 0)) (by (with_reducible repeat (first | refine blk_drewN ?_ _ | refine blk_drew ?_ | refine blk_alloc ?_ _)); refine blk_far ?_ NB505_532.out _; (with_reducible repeat (first | refine blk_drewN ?_ _ | refine blk_drew ?_ | refine blk_alloc ?_ _)); refine blk_far ?_ NB505_532.out _; (with_reducible repeat (first | refine blk_drewN ?_ _ | refine blk_drew ?_ | refine blk_alloc ?_ _)); refine blk_far ?_ NB505_532.out _; (with_reducible repeat (first | refine blk_drewN ?_ _ | refine blk_drew ?_ | refine blk_alloc ?_ _)); exact BK505.out) hb); have n1_ := Aside0.mk (blk_below (g := gb519) (o := .cells #[.int .i64 t514, .int .i64 t515, .string t516] 25 (0, 0)) (by (with_reducible repeat (first | refine blk_drewN ?_ _ | refine blk_drew ?_ | refine blk_alloc ?_ _)); refine blk_far ?_ NB519_532.out _; (with_reducible repeat (first | refine blk_drewN ?_ _ | refine blk_drew ?_ | refine blk_alloc ?_ _)); refine blk_far ?_ NB519_532.out _; (with_reducible repeat (first | refine blk_drewN ?_ _ | refine blk_drew ?_ | refine blk_alloc ?_ _)); refine blk_far ?_ NB519_532.out _; (with_reducible repeat (first | refine blk_drewN ?_ _ | refine blk_drew ?_ | refine blk_alloc ?_ _)); exact BK519.out) hb); have n2_ := Aside0.mk (blk_below (g := gb526) (o := .cells #[.int .i64 t521, .int .i64 t522, .string t523] 25 (0, 0)) (by (with_reducible repeat (first | refine blk_drewN ?_ _ | refine blk_drew ?_ | refine blk_alloc ?_ _)); refine blk_far ?_ NB526_532.out _; (with_reducible repeat (first | refine blk_drewN ?_ _ | refine blk_drew ?_ | refine blk_alloc ?_ _)); refine blk_far ?_ NB526_532.out _; (with_reducible repeat (first | refine blk_drewN ?_ _ | refine blk_drew ?_ | refine blk_alloc ?_ _)); refine blk_far ?_ NB526_532.out _; (with_reducible repeat (first | refine blk_drewN ?_ _ | refine blk_drew ?_ | refine blk_alloc ?_ _)); exact BK526.out) hb); have n3_ := Aside0.mk (blk_below (g := gb532) (o := .cells #[.int .i64 t528, .int .i64 t529, .string t530] 25 (0, 0)) (by (with_reducible repeat (first | refine blk_drewN ?_ _ | refine blk_drew ?_ | refine blk_alloc ?_ _)); refine blk_put (cs := #[.int .i64 t528, .int .i64 t529, .string (⟨#[]⟩ : ByteArray)]) ?_ 2 _ rfl; (with_reducible repeat (first | refine blk_drewN ?_ _ | refine blk_drew ?_ | refine blk_alloc ?_ _)); refine blk_put (cs := #[.int .i64 t528, .int .i64 0, .string (⟨#[]⟩ : ByteArray)]) ?_ 1 _ rfl; (with_reducible repeat (first | refine blk_drewN ?_ _ | refine blk_drew ?_ | refine blk_alloc ?_ _)); refine blk_put (cs := #[.int .i64 0, .int .i64 0, .string (⟨#[]⟩ : ByteArray)]) ?_ 0 _ rfl; (with_reducible repeat (first | refine blk_drewN ?_ _ | refine blk_drew ?_ | refine blk_alloc ?_ _)); exact BK532.out) hb); have n4_ := Aside0.mk (below_step bwA hb); clear BK505; clear BK519; clear BK526; clear BK532; clear HB; have BK505 := n0_; have BK519 := n1_; have BK526 := n2_; have BK532 := n3_; have HB := n4_; clear n0_ n1_ n2_ n3_ n4_; (try clear hb); (try clear hb2); (try clear hk); (try clear hi); have hcz58_0 : w57.cell? ⟨gb519, 0, none⟩ = some (.int .i64 t514) := (blk_cell BK519.out 0).trans rfl; have hcz58_1 : w57.cell? ⟨gb519, 1, none⟩ = some (.int .i64 t515) := (blk_cell BK519.out 1).trans rfl; have hcz58_2 : w57.cell? ⟨gb519, 2, none⟩ = some (.string t516) := (blk_cell BK519.out 2).trans rfl; have hfz58_0 := blk_frozen BK519.out 0; have hfz58_1 := blk_frozen BK519.out 1; have hfz58_2 := blk_frozen BK519.out 2; have hcz59_0 : w57.cell? ⟨gb505, 0, none⟩ = some (.int .i64 a0_0) := (blk_cell BK505.out 0).trans rfl; have hcz59_1 : w57.cell? ⟨gb505, 1, none⟩ = some (.int .i64 a0_1) := (blk_cell BK505.out 1).trans rfl; have hcz59_2 : w57.cell? ⟨gb505, 2, none⟩ = some (.string a0_2) := (blk_cell BK505.out 2).trans rfl; have hfz59_0 := blk_frozen BK505.out 0; have hfz59_1 := blk_frozen BK505.out 1; have hfz59_2 := blk_frozen BK505.out 2; have hcz60_0 : w57.cell? ⟨gb526, 0, none⟩ = some (.int .i64 t521) := (blk_cell BK526.out 0).trans rfl; have hcz60_1 : w57.cell? ⟨gb526, 1, none⟩ = some (.int .i64 t522) := (blk_cell BK526.out 1).trans rfl; have hcz60_2 : w57.cell? ⟨gb526, 2, none⟩ = some (.string t523) := (blk_cell BK526.out 2).trans rfl; have hfz60_0 := blk_frozen BK526.out 0; have hfz60_1 := blk_frozen BK526.out 1; have hfz60_2 := blk_frozen BK526.out 2; have hcz61_0 : w57.cell? ⟨gb532, 0, none⟩ = some (.int .i64 t528) := (blk_cell BK532.out 0).trans rfl; have hcz61_1 : w57.cell? ⟨gb532, 1, none⟩ = some (.int .i64 t529) := (blk_cell BK532.out 1).trans rfl; have hcz61_2 : w57.cell? ⟨gb532, 2, none⟩ = some (.string t530) := (blk_cell BK532.out 2).trans rfl; have hfz61_0 := blk_frozen BK532.out 0; have hfz61_1 := blk_frozen BK532.out 1; have hfz61_2 := blk_frozen BK532.out 2))
                 go_ret
                 exact ⟨by first | rfl | (simp [errW_none, errW_some] <;> rfl) | (simp [*, errW_none, errW_some] <;> rfl), by repeat (first | (with_reducible first | exact HB.out | apply below_alloc | apply pw_below_drewN | apply below_drew1 | refine below_set ?_ GE505.out | refine below_set ?_ GE519.out | refine below_set ?_ GE526.out | refine below_set ?_ GE532.out) | exact HB.out)⟩
                ·rw [if_neg c33] at H
                 exact absurd H (by simp)
               ·rw [if_neg c32] at H
                exact absurd H (by simp)
              ·rw [if_neg c31] at H
               exact absurd H (by simp)
             ·rw [if_neg c30] at H
              exact absurd H (by simp)
            ·rw [if_neg c29] at H
             exact absurd H (by simp)
           ·rw [if_neg c28] at H
            exact absurd H (by simp)
          ·rw [if_neg c27] at H
           exact absurd H (by simp)
         ·rw [if_neg c26] at H
          exact absurd H (by simp)
        ·replace c25 := Bool.eq_false_iff.mpr c25
         subst c25
         have H1 : (none) = some r := by rw [if_neg (show ¬ (false = true) by decide)] at H; exact H
         clear H
         have H := H1
         clear H1
         exact absurd H (by simp)
       ·rw [if_neg c20] at H
        exact absurd H (by simp)
      ·rw [if_neg c17] at H
       exact absurd H (by simp)
     ·rw [if_neg c16] at H
      exact absurd H (by simp)
    ·replace c14 := Bool.eq_false_iff.mpr c14
     subst c14
     have H1 : ((caduceuslaw03_awake.f kj2).bind fun t510 => (if t510 = true then ((value_Show.f kj2 a0_0 a0_1 a0_2).bind fun t511 => (if t511.toList = ([] : List UInt8) then ((value_Text.f kj2 a0_0 a0_1 a0_2).bind fun t512 => (some (t512.toList == ([] : List UInt8)))) else (none))) else (none))) = some r := by rw [if_neg (show ¬ (false = true) by decide)] at H; exact H
     clear H
     have H := H1
     clear H1
     replace H := Option.bind_eq_some_iff.mp H
     obtain ⟨t510, A620, H⟩ := H
     replace H : (if t510 = true then ((value_Show.f kj2 a0_0 a0_1 a0_2).bind fun t511 => (if t511.toList = ([] : List UInt8) then ((value_Text.f kj2 a0_0 a0_1 a0_2).bind fun t512 => (some (t512.toList == ([] : List UInt8)))) else (none))) else (none)) = some r := H
     have A62 := Aside0.mk A620
     clear A620
     by_cases c63 : t510 = true
     ·subst c63
      have H1 : ((value_Show.f kj2 a0_0 a0_1 a0_2).bind fun t511 => (if t511.toList = ([] : List UInt8) then ((value_Text.f kj2 a0_0 a0_1 a0_2).bind fun t512 => (some (t512.toList == ([] : List UInt8)))) else (none))) = some r := by rw [if_pos rfl] at H; exact H
      clear H
      have H := H1
      clear H1
      replace H := Option.bind_eq_some_iff.mp H
      obtain ⟨t511, A640, H⟩ := H
      replace H : (if t511.toList = ([] : List UInt8) then ((value_Text.f kj2 a0_0 a0_1 a0_2).bind fun t512 => (some (t512.toList == ([] : List UInt8)))) else (none)) = some r := H
      have A64 := Aside0.mk A640
      clear A640
      by_cases c65 : t511.toList = ([] : List UInt8)
      ·rw [if_pos c65] at H
       have c65b0 : (t511.toList == ([] : List UInt8)) = true := beq_iff_eq.mpr c65
       have c65b1 : (t511.toList != ([] : List UInt8)) = false := bne_eq_false_iff_eq.mpr c65
       clear c65
       replace H := Option.bind_eq_some_iff.mp H
       obtain ⟨t512, A660, H⟩ := H
       replace H : (some (t512.toList == ([] : List UInt8))) = some r := H
       have A66 := Aside0.mk A660
       clear A660
       obtain rfl := Option.some.inj H
       have hcz67_0 : wc.cell? ⟨gb505, 0, none⟩ = some (.int .i64 a0_0) := (blk_cell BK505.out 0).trans rfl
       have hcz67_1 : wc.cell? ⟨gb505, 1, none⟩ = some (.int .i64 a0_1) := (blk_cell BK505.out 1).trans rfl
       have hcz67_2 : wc.cell? ⟨gb505, 2, none⟩ = some (.string a0_2) := (blk_cell BK505.out 2).trans rfl
       have hfz67_0 := blk_frozen BK505.out 0
       have hfz67_1 := blk_frozen BK505.out 1
       have hfz67_2 := blk_frozen BK505.out 2
       go_wp2_with (first | ((with_reducible refine gate_callee (f := 28) rfl ?_); refine goesA (some 24) Tryd.func28 #[.agg #[.int .i64 a0_0, .int .i64 a0_1, .string a0_2]] ?_; (with_reducible refine (value_Check.calls a0_0 a0_1 a0_2 false _ ?side1 A13.out).mono ?_); (case side1 => exact Tabs.below HT.out bwA); rintro e w68 ⟨rfl, hb⟩; refine ⟨_, rfl, ?_⟩; have n0_ := Aside0.mk (blk_below (g := gb505) (o := .cells #[.int .i64 a0_0, .int .i64 a0_1, .string a0_2] 25 (0, 0)) blkA hb); have n1_ := Aside0.mk (below_step bwA hb); clear BK505; clear HB; have BK505 := n0_; have HB := n1_; clear n0_ n1_; (try clear hb); (try clear hb2); (try clear hk); (try clear hi)) | ((with_reducible refine gate_callee (f := 16) rfl ?_); refine goesA (some 26) Tryd.func16 #[] ?_; (with_reducible refine (caduceuslaw03_awake.calls kj2  true _ ?side1 A62.out).mono ?_); (case side1 => exact Tabs.below HT.out bwA); rintro e w69 ⟨rfl, hb⟩; refine ⟨_, rfl, ?_⟩; have n0_ := Aside0.mk (blk_below (g := gb505) (o := .cells #[.int .i64 a0_0, .int .i64 a0_1, .string a0_2] 25 (0, 0)) blkA hb); have n1_ := Aside0.mk (below_step bwA hb); clear BK505; clear HB; have BK505 := n0_; have HB := n1_; clear n0_ n1_; (try clear hb); (try clear hb2); (try clear hk); (try clear hi); have hcz70_0 : w69.cell? ⟨gb505, 0, none⟩ = some (.int .i64 a0_0) := (blk_cell BK505.out 0).trans rfl; have hcz70_1 : w69.cell? ⟨gb505, 1, none⟩ = some (.int .i64 a0_1) := (blk_cell BK505.out 1).trans rfl; have hcz70_2 : w69.cell? ⟨gb505, 2, none⟩ = some (.string a0_2) := (blk_cell BK505.out 2).trans rfl; have hfz70_0 := blk_frozen BK505.out 0; have hfz70_1 := blk_frozen BK505.out 1; have hfz70_2 := blk_frozen BK505.out 2) | (go_at_call 39; (with_reducible refine (value_Show.calls kj2 a0_0 a0_1 a0_2 t511 _ ?side1 A64.out).mono ?_); (case side1 => exact Tabs.below HT.out bwA); rintro e w71 ⟨rfl, hb⟩; have n0_ := Aside0.mk (blk_below (g := gb505) (o := .cells #[.int .i64 a0_0, .int .i64 a0_1, .string a0_2] 25 (0, 0)) blkA hb); have n1_ := Aside0.mk (below_step bwA hb); clear BK505; clear HB; have BK505 := n0_; have HB := n1_; clear n0_ n1_; (try clear hb); (try clear hb2); (try clear hk); (try clear hi); have hcz72_0 : w71.cell? ⟨gb505, 0, none⟩ = some (.int .i64 a0_0) := (blk_cell BK505.out 0).trans rfl; have hcz72_1 : w71.cell? ⟨gb505, 1, none⟩ = some (.int .i64 a0_1) := (blk_cell BK505.out 1).trans rfl; have hcz72_2 : w71.cell? ⟨gb505, 2, none⟩ = some (.string a0_2) := (blk_cell BK505.out 2).trans rfl; have hfz72_0 := blk_frozen BK505.out 0; have hfz72_1 := blk_frozen BK505.out 1; have hfz72_2 := blk_frozen BK505.out 2) | (go_at_call 40; (with_reducible refine (value_Text.calls kj2 a0_0 a0_1 a0_2 t512 _ ?side1 A66.out).mono ?_); (case side1 => exact Tabs.below HT.out bwA); rintro e w73 ⟨rfl, hb⟩; have n0_ := Aside0.mk (blk_below (g := gb505) (o := .cells #[.int .i64 a0_0, .int .i64 a0_1, .string a0_2] 25 (0, 0)) blkA hb); have n1_ := Aside0.mk (below_step bwA hb); clear BK505; clear HB; have BK505 := n0_; have HB := n1_; clear n0_ n1_; (try clear hb); (try clear hb2); (try clear hk); (try clear hi)))
       go_ret
       exact ⟨by first | rfl | (simp [errW_none, errW_some] <;> rfl) | (simp [*, errW_none, errW_some] <;> rfl), by repeat (first | (with_reducible first | exact HB.out | apply below_alloc | apply pw_below_drewN | apply below_drew1 | refine below_set ?_ GE505.out) | exact HB.out)⟩
      ·rw [if_neg c65] at H
       exact absurd H (by simp)
     ·replace c63 := Bool.eq_false_iff.mpr c63
      subst c63
      have H1 : (none) = some r := by rw [if_neg (show ¬ (false = true) by decide)] at H; exact H
      clear H
      have H := H1
      clear H1
      exact absurd H (by simp)

end Go.Proofs.YtoajlmmkkcelgaaDoor.A
