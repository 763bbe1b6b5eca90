-- By drv.py, the session's own driver round the kit's print: the machine's side of the laws, function by function. Not trusted: Lean checks it.
import Derived.Test.YtlejenoibblhnaaDoorAx0
import Derived.Test.YtlejenoibblhnaaDoorAx1
import Derived.Test.YtlejenoibblhnaaDoorAx14
namespace Go.Proofs.YtlejenoibblhnaaDoor.A
open Go.RowKit Go.Proofs.YtlejenoibblhnaaDoorW.PrintWords Go.Proofs.YtlejenoibblhnaaDoorW.PrintLast Go.Proofs.YtlejenoibblhnaaDoorW.PrintMore
attribute [local go_sem] max2_int min2_int max_two min_two max_three min_three max_four min_four   -- for this text's walks alone
set_option linter.unusedVariables false
set_option linter.unusedSimpArgs false

attribute [local go_sem high] eqA26
/-! ### caduceusref02_Valid: function 21 -/
def caduceusref02_Valid.l0 : Nat → ByteArray → Int → Option (Bool)
 | 0, _, _ => none
 | k + 1, x0, x3 => if x3 < (x0.size : Int) then (if 0 ≤ x3 then (if x3 ≤ (x0.size : Int) then ((caduceusref02_First.f k (x0.extract (x3 : Int).toNat x0.size)).bind fun bt228 => (if bt228.2 = 0 then (some false) else (caduceusref02_Valid.l0 k x0 (wrap64 (x3 + bt228.2))))) else (none)) else (none)) else (some true)
def caduceusref02_Valid.f (k : Nat) (a0 : ByteArray) : Option (Bool) := caduceusref02_Valid.l0 k a0 0
theorem caduceusref02_Valid.mono_l : ∀ k, (∀ y0 y1, LeO (caduceusref02_Valid.l0 k y0 y1) (caduceusref02_Valid.l0 (k + 1) y0 y1))
 | 0 => fun _ _ r h => by simp [caduceusref02_Valid.l0] at h
 | k + 1 => by
  have ih0 := caduceusref02_Valid.mono_l k
  ·intro y0 y1
   unfold caduceusref02_Valid.l0
   repeat' (with_reducible first | exact ih0 _ _ | exact caduceusref02_First.mono _ _ | exact LeO.refl _ | exact LeO.none _ | refine LeO.ite ?_ ?_ | refine LeO.bind ?_ (fun _ => ?_))
theorem caduceusref02_Valid.mono : ∀ a0 k, LeO (caduceusref02_Valid.f k a0) (caduceusref02_Valid.f (k + 1) a0) := by
 intro a0 k
 have ih0 := caduceusref02_Valid.mono_l k
 unfold caduceusref02_Valid.f
 repeat' (with_reducible first | exact ih0 _ _ | exact caduceusref02_First.mono _ _ | exact LeO.refl _ | exact LeO.none _ | refine LeO.ite ?_ ?_ | refine LeO.bind ?_ (fun _ => ?_))
set_option maxHeartbeats 8000000 in
set_option maxRecDepth 100000 in
theorem caduceusref02_Valid.calls (k : Nat) (a0 : ByteArray) (r : Bool) (w : World) (h : caduceusref02_Valid.f k a0 = some r) :
  Calls Tryd.prog 21 #[.string a0] w fun e w' => e = .returned (.bool r) ∧ Below w.heap.size w w' := by
 have hu66 := Tryd.underlying66
 have HB := Aside0.mk (Below.refl w.heap.size w)
 unfold caduceusref02_Valid.f at h
 have H := h
 clear h
 have H' := Aside0.mk H
 clear H
 go_enter Tryd.func21, Tryd.ntmps21
 go_wp2
 go_loopg [3] k (fun kq v3 w' => ∃ (x3_1 : Int), v3 = .int .i64 x3_1 ∧ Aside0 (caduceusref02_Valid.l0 kq a0 x3_1 = some r) ∧ Aside0 (kq ≤ k) ∧ Aside0 (Below w.heap.size w w'))
 case atStart => exact ⟨(0), (endS), H', ⟨Nat.le_refl _⟩, ⟨bwA⟩⟩
 case round =>
  clear H'
  try clear c2
  try clear p2
  try clear c21
  obtain ⟨x3_1, rfl, HA, HK1, HB⟩ := hrel
  cases gk with
  | zero => exact absurd HA.out (by simp [caduceusref02_Valid.l0])
  | succ k1 =>
   have H := HA.out
   clear HA
   simp only [caduceusref02_Valid.l0] at H
   revert H; refine itR ?L3p ?L3n
   case' L3p =>
    intro c101 H
    have c101b0 := decide_eq_true c101
    clear c101
    replace H := itN H
    obtain ⟨c102, H⟩ := H
    have c102b0 := eq_true c102
    have c102b1 := decide_eq_true c102
    clear c102
    replace H := itN H
    obtain ⟨c103, H⟩ := H
    have c103b0 := eq_true c103
    have c103b1 := decide_eq_true c103
    clear c103
    replace H := bnA H
    obtain ⟨⟨t228, t229⟩, A104, H⟩ := H
    dsimp only at H
    revert H; refine itQ ?L4p ?L4n
    case' L4p =>
     rintro ⟨c105b0, c105b1⟩ H
     obtain rfl := Option.some.inj H
     have M1 := True.intro
    case' L4n =>
     rintro ⟨c105b0, c105b1⟩ c105 H
     have H' := Aside0.mk H
     clear H
     have M2 := True.intro
   case' L3n =>
    intro c101 H
    have c101b0 := decide_eq_false c101
    clear c101
    obtain rfl := Option.some.inj H
    go_wp2
    go_ret
    exact ⟨endA, bwA⟩
   all_goals
    case _ =>
     try go_wp2_with (first | ((with_reducible refine gate_callee (f := 34) rfl ?_); refine goesA (some 12) Tryd.func34 #[.string (a0.extract (x3_1 : Int).toNat a0.size)] ?_; (with_reducible refine (caduceusref02_First.calls _ _ _ _ _ A104.out).mono ?_); rintro e w201 ⟨rfl, hb⟩; refine ⟨_, rfl, ?_⟩; replace HB := Aside0.mk (below_step (bwA) hb); (try clear hb)) | ((with_reducible refine gate_dst (N := 4) rfl ?_); refine boxB 4 #[.int .i64 0, .int .i64 0] 66 HB ?_; clear HB; intro gb230 w202 BK230 GW230 GE230 HB; obtain ⟨hcz203_0, hcz203_1⟩ := cel2 BK230.out; obtain ⟨hfz203_0, hfz203_1⟩ := frz2 BK230.out))
     first
      | clear M1
        go_ret
        exact ⟨endA, bwA⟩
      | clear M2
        go_roundg k1
        case measure => have := HK1.out; omega
        case rel => exact ⟨(wrap64 (x3_1 + t229)), (endS), H', ⟨by have := HK1.out; omega⟩, ⟨bwA⟩⟩
/-! ### caduceusref03_Check: function 13 -/
def caduceusref03_Check.f (k : Nat) (a0_0 : Int) (a0_1 : Int) (a0_2 : ByteArray) : Option (Bool) := if a0_0 = 1 then (if a0_1 ≥ (-9007199254740991) then (if a0_1 ≤ 9007199254740991 then (some (a0_2.toList == ([] : List UInt8))) else (some false)) else (some false)) else (if a0_0 = 2 then (if a0_1 = 0 then (if (a0_2.size : Int) ≤ 200 then ((caduceusref02_Valid.f k a0_2).bind fun t232 => (some t232)) else (some false)) else (some false)) else (if a0_0 = 3 then (if a0_1 = 0 then (some (a0_2.toList == ([] : List UInt8))) else (if a0_1 = 1 then (some (a0_2.toList == ([] : List UInt8))) else (some false))) else (if a0_0 = 4 then (if a0_1 = 0 then (some (decide ((a0_2.size : Int) ≤ 200))) else (some false)) else (some false))))
theorem caduceusref03_Check.mono : ∀ a0 a1 a2 k, LeO (caduceusref03_Check.f k a0 a1 a2) (caduceusref03_Check.f (k + 1) a0 a1 a2) := by
 intro a0 a1 a2 k
 unfold caduceusref03_Check.f
 repeat' (with_reducible first | exact caduceusref02_Valid.mono _ _ | exact LeO.refl _ | exact LeO.none _ | refine LeO.ite ?_ ?_ | refine LeO.bind ?_ (fun _ => ?_))
set_option maxHeartbeats 8000000 in
set_option maxRecDepth 100000 in
theorem caduceusref03_Check.calls (k : Nat) (a0_0 : Int) (a0_1 : Int) (a0_2 : ByteArray) (r : Bool) (w : World) (h : caduceusref03_Check.f k a0_0 a0_1 a0_2 = some r) :
  Calls Tryd.prog 13 #[.agg #[.int .i64 a0_0, .int .i64 a0_1, .string a0_2]] w fun e w' => e = .returned (.bool r) ∧ Below w.heap.size w w' := by
 have hu41 := Tryd.underlying41
 have HB := Aside0.mk (Below.refl w.heap.size w)
 unfold caduceusref03_Check.f at h
 have H := h
 clear h
 revert H; refine itQ ?L3p ?L3n
 case' L3p =>
  rintro ⟨c2b0, c2b1⟩ H
  revert H; refine itR ?L4p ?L4n
  case' L4p =>
   intro c3 H
   have c3b0 := geT c3
   clear c3
   revert H; refine itR ?L5p ?L5n
   case' L5p =>
    intro c4 H
    have c4b0 := decide_eq_true c4
    clear c4
    obtain rfl := Option.some.inj H
    have M1 := True.intro
   case' L5n =>
    intro c4 H
    have c4b0 := decide_eq_false c4
    clear c4
    obtain rfl := Option.some.inj H
    have M1 := True.intro
  case' L4n =>
   intro c3 H
   have c3b0 := geF c3
   clear c3
   obtain rfl := Option.some.inj H
   have M1 := True.intro
 case' L3n =>
  rintro ⟨c2b0, c2b1⟩ c2 H
  revert H; refine itQ ?L6p ?L6n
  case' L6p =>
   rintro ⟨c3b0, c3b1⟩ H
   revert H; refine itQ ?L7p ?L7n
   case' L7p =>
    rintro ⟨c4b0, c4b1⟩ H
    revert H; refine itR ?L8p ?L8n
    case' L8p =>
     intro c5 H
     have c5b0 := decide_eq_true c5
     have c5b1 : decide (a0_2.size ≤ 200) = true := decide_eq_true (by omega)
     clear c5
     replace H := bnA H
     obtain ⟨t232, A6, H⟩ := H
     obtain rfl := Option.some.inj H
     have M2 := True.intro
    case' L8n =>
     intro c5 H
     have c5b0 := decide_eq_false c5
     have c5b1 : decide (a0_2.size ≤ 200) = false := decide_eq_false (by omega)
     clear c5
     obtain rfl := Option.some.inj H
     have M1 := True.intro
   case' L7n =>
    rintro ⟨c4b0, c4b1⟩ c4 H
    obtain rfl := Option.some.inj H
    have M1 := True.intro
  case' L6n =>
   rintro ⟨c3b0, c3b1⟩ c3 H
   revert H; refine itQ ?L9p ?L9n
   case' L9p =>
    rintro ⟨c4b0, c4b1⟩ H
    revert H; refine itQ ?L10p ?L10n
    case' L10p =>
     rintro ⟨c5b0, c5b1⟩ H
     obtain rfl := Option.some.inj H
     have M1 := True.intro
    case' L10n =>
     rintro ⟨c5b0, c5b1⟩ c5 H
     revert H; refine itQ ?L11p ?L11n
     case' L11p =>
      rintro ⟨c6b0, c6b1⟩ H
      obtain rfl := Option.some.inj H
      have M1 := True.intro
     case' L11n =>
      rintro ⟨c6b0, c6b1⟩ c6 H
      obtain rfl := Option.some.inj H
      have M1 := True.intro
   case' L9n =>
    rintro ⟨c4b0, c4b1⟩ c4 H
    revert H; refine itQ ?L12p ?L12n
    case' L12p =>
     rintro ⟨c5b0, c5b1⟩ H
     revert H; refine itQ ?L13p ?L13n
     case' L13p =>
      rintro ⟨c6b0, c6b1⟩ H
      obtain rfl := Option.some.inj H
      have M1 := True.intro
     case' L13n =>
      rintro ⟨c6b0, c6b1⟩ c6 H
      obtain rfl := Option.some.inj H
      have M1 := True.intro
    case' L12n =>
     rintro ⟨c5b0, c5b1⟩ c5 H
     obtain rfl := Option.some.inj H
     have M1 := True.intro
 all_goals
  case _ =>
   go_enter Tryd.func13, Tryd.ntmps13
   go_wp2_with (first | ((with_reducible refine gate_dst (N := 1) rfl ?_); (try (refine gate_guard (by rfl) ?_; dsimp only)); refine boxB 1 #[.int .i64 a0_0, .int .i64 a0_1, .string a0_2] 41 HB ?_; clear HB; intro gb231 w101 BK231 GW231 GE231 HB; obtain ⟨hcz102_0, hcz102_1, hcz102_2⟩ := cel3 BK231.out; obtain ⟨hfz102_0, hfz102_1, hfz102_2⟩ := frz3 BK231.out; apply stopA; (case other => exact True.intro)))
   case _ =>
    first
     | clear M1
       (try go_wp2_with (fail))
       go_ret
       exact ⟨endA, bwA⟩
     | clear M2
       try go_wp2_with (first | (go_at_call 21; (with_reducible refine (caduceusref02_Valid.calls _ _ _ _ A6.out).mono ?_); rintro e w103 ⟨rfl, hb⟩; replace BK231 := Aside0.mk (bkB BK231 hb); replace HB := Aside0.mk (below_step (bwA) hb); (try clear hb)))
       go_ret
       exact ⟨endA, bwA⟩
/-! ### caduceuslaw03_Ref: function 14 -/
def caduceuslaw03_Ref.f (a0_0 : Int) (a0_1 : Int) (a0_2 : ByteArray) : Option (Int × Int × ByteArray) := some (a0_0, a0_1, a0_2)
set_option maxHeartbeats 8000000 in
set_option maxRecDepth 100000 in
theorem caduceuslaw03_Ref.calls (a0_0 : Int) (a0_1 : Int) (a0_2 : ByteArray) (r1 : Int) (r2 : Int) (r3 : ByteArray) (w : World) (h : caduceuslaw03_Ref.f a0_0 a0_1 a0_2 = some (r1, r2, r3)) :
  Calls Tryd.prog 14 #[.agg #[.int .i64 a0_0, .int .i64 a0_1, .string a0_2]] w fun e w' => e = .returned (.agg #[.int .i64 r1, .int .i64 r2, .string r3]) ∧ Below w.heap.size w w' := by
 have hu26 := Tryd.underlying26
 have hu41 := Tryd.underlying41
 have HB := Aside0.mk (Below.refl w.heap.size w)
 unfold caduceuslaw03_Ref.f at h
 have H := h
 clear h
 simp only [Option.some.injEq, Prod.mk.injEq] at H
 obtain ⟨rfl, rfl, rfl⟩ := H
 go_enter Tryd.func14, Tryd.ntmps14
 go_wp2_with (first | ((with_reducible refine gate_dst (N := 1) rfl ?_); refine boxA 1 #[.int .i64 a0_0, .int .i64 a0_1, .string a0_2] 26 ?_; intro gb233 hg w101 hbox hb; have n0_ := Aside0.mk (below_step (bwA) hb); have n1_ := Aside0.mk (hbox); have n2_ := Aside0.mk ((by rw [hg]; exact (below_size (bwA)) : w.heap.size ≤ gb233)); have n3_ := Aside0.mk ((by rw [hg]; exact (below_size (bwA)) : w.heap.size ≤ gb233)); clear HB; have HB := n0_; have BK233 := n1_; have GW233 := n2_; have GE233 := n3_; clear n0_ n1_ n2_ n3_; clear hb hbox hg) | ((with_reducible refine gate_dst (N := 2) rfl ?_); refine boxA 2 #[.int .i64 0, .int .i64 0, .string (⟨#[]⟩ : ByteArray)] 41 ?_; intro gb234 hg w102 hbox hb; have n0_ := Aside0.mk (blk_below (g := gb233) (o := .cells #[.int .i64 a0_0, .int .i64 a0_1, .string a0_2] 26 (0, 0)) blkA hb); have n1_ := Aside0.mk (below_step (bwA) hb); have n2_ := Aside0.mk (hbox); have n3_ := Aside0.mk ((by rw [hg]; exact (below_size (bwA)) : w.heap.size ≤ gb234)); have n4_ := Aside0.mk ((by rw [hg]; exact (below_size (bwA)) : w.heap.size ≤ gb234)); have n5_ := Aside0.mk ((by rw [hg]; exact Nat.ne_of_lt (blk_lt (g := gb233) (o := .cells #[.int .i64 a0_0, .int .i64 a0_1, .string a0_2] 26 (0, 0)) blkA) : gb233 ≠ gb234)); have n6_ := Aside0.mk ((by rw [hg]; exact Nat.ne_of_gt (blk_lt (g := gb233) (o := .cells #[.int .i64 a0_0, .int .i64 a0_1, .string a0_2] 26 (0, 0)) blkA) : gb234 ≠ gb233)); clear BK233; clear HB; have BK233 := n0_; have HB := n1_; have BK234 := n2_; have GW234 := n3_; have GE234 := n4_; have NB233_234 := n5_; have NB234_233 := n6_; clear n0_ n1_ n2_ n3_ n4_ n5_ n6_; clear hb hbox hg; have hnb103 := NB233_234.out; have hnc103 := NB234_233.out; have hcz104_0 := celA BK233.out 0 (.int .i64 a0_0); have hcz104_1 := celA BK233.out 1 (.int .i64 a0_1); have hcz104_2 := celA BK233.out 2 (.string a0_2); have hfz104_0 := blk_frozen BK233.out 0; have hfz104_1 := blk_frozen BK233.out 1; have hfz104_2 := blk_frozen BK233.out 2; have hcz105_0 := celA BK234.out 0 (.int .i64 0); have hcz105_1 := celA BK234.out 1 (.int .i64 0); have hcz105_2 := celA BK234.out 2 (.string (⟨#[]⟩ : ByteArray)); have hfz105_0 := blk_frozen BK234.out 0; have hfz105_1 := blk_frozen BK234.out 1; have hfz105_2 := blk_frozen BK234.out 2))
 refine bodyPost_ret (results_cell_row rfl _ _ gb234 41 #[.int .i64 a0_0, .int .i64 a0_1, .string a0_2] (0, 0) _ rfl (by refine blkP (cs := #[.int .i64 a0_0, .int .i64 a0_1, .string (⟨#[]⟩ : ByteArray)]) ?_ 2 _; refine blkP (cs := #[.int .i64 a0_0, .int .i64 0, .string (⟨#[]⟩ : ByteArray)]) ?_ 1 _; refine blkP (cs := #[.int .i64 0, .int .i64 0, .string (⟨#[]⟩ : ByteArray)]) ?_ 0 _; (with_reducible repeat (first | refine blk_drewN ?_ _ | refine blk_drew ?_ | refine blk_alloc ?_ _)); exact BK234.out) Tryd.underlying41 rfl (by kernel_rfl)) rfl ?_
 exact ⟨endA, bwA⟩

/-! ### caduceuslaw03_taken: function 8 -/
def caduceuslaw03_taken.f (k : Nat) (a0_0 : Int) (a0_1 : Int) (a0_2 : ByteArray) (a1 : Int) (a2_0 : Int) (a2_1 : Int) (a2_2 : ByteArray) : Option (Bool) := (caduceuslaw03_Ref.f a2_0 a2_1 a2_2).bind fun bt237 => ((caduceusref03_Check.f k bt237.1 bt237.2.1 bt237.2.2).bind fun t240 => (if t240 = true then (if a1 = 0 then (some (a0_0 == a2_0 && (a0_1 == a2_1 && (a0_2.toList == a2_2.toList)))) else (some false)) else (if a1 = 1 then (some (a0_0 == 0 && (a0_1 == 0 && (a0_2.toList == ([] : List UInt8))))) else (some false))))
theorem caduceuslaw03_taken.mono : ∀ a0 a1 a2 a3 a4 a5 a6 k, LeO (caduceuslaw03_taken.f k a0 a1 a2 a3 a4 a5 a6) (caduceuslaw03_taken.f (k + 1) a0 a1 a2 a3 a4 a5 a6) := by
 intro a0 a1 a2 a3 a4 a5 a6 k
 unfold caduceuslaw03_taken.f
 repeat' (with_reducible first | exact caduceusref03_Check.mono _ _ _ _ | exact LeO.refl _ | exact LeO.none _ | refine LeO.ite ?_ ?_ | refine LeO.bind ?_ (fun _ => ?_))
set_option maxHeartbeats 8000000 in
set_option maxRecDepth 100000 in
theorem caduceuslaw03_taken.calls (k : Nat) (a0_0 : Int) (a0_1 : Int) (a0_2 : ByteArray) (a1 : Int) (a2_0 : Int) (a2_1 : Int) (a2_2 : ByteArray) (r : Bool) (w : World) (h : caduceuslaw03_taken.f k a0_0 a0_1 a0_2 a1 a2_0 a2_1 a2_2 = some r) :
  Calls Tryd.prog 8 #[.agg #[.int .i64 a0_0, .int .i64 a0_1, .string a0_2], .int .i64 a1, .agg #[.int .i64 a2_0, .int .i64 a2_1, .string a2_2]] w fun e w' => e = .returned (.bool r) ∧ Below w.heap.size w w' := by
 have hu26 := Tryd.underlying26
 have HB := Aside0.mk (Below.refl w.heap.size w)
 unfold caduceuslaw03_taken.f at h
 have H := h
 clear h
 replace H := bnA H
 obtain ⟨⟨t237, t238, t239⟩, A4, H⟩ := H
 dsimp only at H
 replace H := bnA H
 obtain ⟨t240, A5, H⟩ := H
 revert H; refine itR ?L5p ?L5n
 case' L5p =>
  intro c6 H
  subst c6
  revert H; refine itQ ?L6p ?L6n
  case' L6p =>
   rintro ⟨c7b0, c7b1⟩ H
   obtain rfl := Option.some.inj H
   have M1 := True.intro
   have M2 := True.intro
  case' L6n =>
   rintro ⟨c7b0, c7b1⟩ c7 H
   obtain rfl := Option.some.inj H
   have M4 := True.intro
 case' L5n =>
  intro c6 H
  replace c6 := Bool.eq_false_iff.mpr c6
  subst c6
  revert H; refine itQ ?L7p ?L7n
  case' L7p =>
   rintro ⟨c7b0, c7b1⟩ H
   obtain rfl := Option.some.inj H
   have M1 := True.intro
   have M3 := True.intro
  case' L7n =>
   rintro ⟨c7b0, c7b1⟩ c7 H
   obtain rfl := Option.some.inj H
   have M4 := True.intro
 all_goals
  case _ =>
   go_enter Tryd.func8, Tryd.ntmps8
   go_wp2_with (first | ((with_reducible refine gate_dst (N := 3) rfl ?_); refine boxB 3 #[.int .i64 a0_0, .int .i64 a0_1, .string a0_2] 26 HB ?_; clear HB; intro gb235 w101 BK235 GW235 GE235 HB) | ((with_reducible refine gate_dst (N := 5) rfl ?_); refine boxA 5 #[.int .i64 a2_0, .int .i64 a2_1, .string a2_2] 26 ?_; intro gb236 hg w102 hbox hb; have BK236 := Aside0.mk (hbox); have GW236 := Aside0.mk (hgW hg : w.heap.size ≤ gb236); have GE236 := Aside0.mk (hgW hg : w.heap.size ≤ gb236); have NB235_236 := Aside0.mk (hgL hg BK235 : gb235 ≠ gb236); have NB236_235 := Aside0.mk (hgG hg BK235 : gb236 ≠ gb235); replace BK235 := Aside0.mk (bkB BK235 hb); replace HB := Aside0.mk (below_step (bwA) hb); clear hb hbox hg; have hnb103 := NB236_235.out; have hnc103 := NB235_236.out; obtain ⟨hcz104_0, hcz104_1, hcz104_2⟩ := cel3 BK236.out; obtain ⟨hfz104_0, hfz104_1, hfz104_2⟩ := frz3 BK236.out) | ((with_reducible refine gate_callee (f := 14) rfl ?_); refine goesA (some 8) Tryd.func14 #[.agg #[.int .i64 a2_0, .int .i64 a2_1, .string a2_2]] ?_; (with_reducible refine (caduceuslaw03_Ref.calls _ _ _ _ _ _ _ A4.out).mono ?_); rintro e w105 ⟨rfl, hb⟩; refine ⟨_, rfl, ?_⟩; replace BK235 := Aside0.mk (bkB BK235 hb); replace BK236 := Aside0.mk (bkB BK236 hb); replace HB := Aside0.mk (below_step (bwA) hb); (try clear hb)) | ((with_reducible refine gate_callee (f := 13) rfl ?_); refine goesA (some 9) Tryd.func13 #[.agg #[.int .i64 t237, .int .i64 t238, .string t239]] ?_; (with_reducible refine (caduceusref03_Check.calls _ _ _ _ _ _ A5.out).mono ?_); rintro e w106 ⟨rfl, hb⟩; refine ⟨_, rfl, ?_⟩; replace BK235 := Aside0.mk (bkB BK235 hb); replace BK236 := Aside0.mk (bkB BK236 hb); replace HB := Aside0.mk (below_step (bwA) hb); (try clear hb); apply stopA; (case other => exact True.intro)))
   case _ =>
    first
     | clear M1
       obtain ⟨hcz107_0, hcz107_1, hcz107_2⟩ := cel3 BK235.out
       obtain ⟨hfz107_0, hfz107_1, hfz107_2⟩ := frz3 BK235.out
       first
        | clear M2
          obtain ⟨hcz108_0, hcz108_1, hcz108_2⟩ := cel3 BK236.out
          obtain ⟨hfz108_0, hfz108_1, hfz108_2⟩ := frz3 BK236.out
          (try go_wp2_with (fail))
          go_ret
          exact ⟨endA, bwA⟩
        | clear M3
          (try go_wp2_with (fail))
          go_ret
          exact ⟨endA, bwA⟩
     | clear M4
       (try go_wp2_with (fail))
       go_ret
       exact ⟨endA, bwA⟩
/-! ### value_FromU: function 120, by hand -/
set_option maxHeartbeats 4000000 in
set_option maxRecDepth 100000 in
theorem From0U.calls (n : Int) (w : World) : Calls Tryd.prog 7 #[.iface 5 (.int .u8 n)] w fun e w' => e = .returned (.tuple #[.agg #[.int .i64 0, .int .i64 0, .string ⟨#[]⟩], .int .i64 8]) ∧ Below w.heap.size w w' := by
 have hu := Tryd.underlying26
 have hu0 := Tryd.underlying20
 have huT0 := Tryd.underlying3
 have ta0 : ∀ W, (Instr.typeAssert (.iface 5 (.int .u8 n)) 20 3 true).run Tryd.prog W = .ok (.tuple #[.int .i64 0, .bool false]) W := fun W => by simp [Instr.typeAssert, run_underlying hu0, run_underlying huT0, go_sem, Result.andThen]
 have huT1 := Tryd.underlying9
 have ta1 : ∀ W, (Instr.typeAssert (.iface 5 (.int .u8 n)) 20 9 true).run Tryd.prog W = .ok (.tuple #[.string ⟨#[]⟩, .bool false]) W := fun W => by simp [Instr.typeAssert, run_underlying hu0, run_underlying huT1, go_sem, Result.andThen]
 have huT2 := Tryd.underlying4
 have ta2 : ∀ W, (Instr.typeAssert (.iface 5 (.int .u8 n)) 20 4 true).run Tryd.prog W = .ok (.tuple #[.bool false, .bool false]) W := fun W => by simp [Instr.typeAssert, run_underlying hu0, run_underlying huT2, go_sem, Result.andThen]
 have huT3 := Tryd.underlying22
 have ta3 : ∀ W, (Instr.typeAssert (.iface 5 (.int .u8 n)) 20 22 true).run Tryd.prog W = .ok (.tuple #[.slice none 0 0, .bool false]) W := fun W => by simp [Instr.typeAssert, run_underlying hu0, run_underlying huT3, go_sem, Result.andThen]
 go_enter Tryd.func7, Tryd.ntmps7
 go_wp2
 refine bodyPost_ret (results_ct rfl _ _ w.heap.size 26 #[.int .i64 0, .int .i64 0, .string ⟨#[]⟩] (0, 0) _ rfl (blk_below (heap_alloc_new w _) ((Below.refl _ _).alloc (Nat.le_refl _) _)) hu rfl (by kernel_rfl)) rfl ?_
 exact ⟨rfl, ((Below.refl _ w).alloc (Nat.le_refl _) _).alloc (by simp) _⟩
def value_FromU.f (a0 : Int) : Option (Int × Int × ByteArray × Int) := some (0, 0, ⟨#[]⟩, 8)
theorem value_FromU.calls (a0 : Int) (r1 r2 : Int) (r3 : ByteArray) (r4 : Int) (w : World) (h : value_FromU.f a0 = some (r1, r2, r3, r4)) :
  Calls Tryd.prog 7 #[.iface 5 (.int .u8 a0)] w fun e w' => e = .returned (.tuple #[.agg #[.int .i64 r1, .int .i64 r2, .string r3], .int .i64 r4]) ∧ Below w.heap.size w w' := by
 have h := Option.some.inj h
 simp only [Prod.mk.injEq] at h
 obtain ⟨rfl, rfl, rfl, rfl⟩ := h
 exact From0U.calls a0 w

end Go.Proofs.YtlejenoibblhnaaDoor.A
