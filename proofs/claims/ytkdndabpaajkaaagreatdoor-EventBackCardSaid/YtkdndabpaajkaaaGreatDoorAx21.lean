-- By drv.py, the session's own driver round the kit's print: the machine's side of the laws, function by function. Not trusted: Lean checks it.
import Derived.Test.YtkdndabpaajkaaaGreatDoorAx0
import Derived.Test.YtkdndabpaajkaaaGreatDoorAx6
import Derived.Test.YtkdndabpaajkaaaGreatDoorAx16
namespace Go.Proofs.YtkdndabpaajkaaaGreatDoor.A
open Go.RowKit Go.Proofs.YtkdndabpaajkaaaGreatDoorW.PrintWords Go.Proofs.YtkdndabpaajkaaaGreatDoorW.PrintLast Go.Proofs.YtkdndabpaajkaaaGreatDoorW.PrintMore
attribute [local go_sem] max2_int min2_int max_two min_two max_three min_three max_four min_four   -- for this text's walks alone
set_option linter.unusedVariables false
set_option linter.unusedSimpArgs false

/-! ### stringslite_CutPrefix: function 284 -/
def stringslite_CutPrefix.f (a0 : ByteArray) (a1 : ByteArray) : Option (ByteArray × Bool) := (stringslite_HasPrefix.f a0 a1).bind fun t221 => (if t221 = true then (if 0 ≤ (a1.size : Int) then (if (a1.size : Int) ≤ (a0.size : Int) then (some (a0.extract ((a1.size : Int) : Int).toNat a0.size, true)) else (none)) else (none)) else (some (a0, false)))
set_option maxHeartbeats 8000000 in
set_option maxRecDepth 100000 in
theorem stringslite_CutPrefix.calls (a0 : ByteArray) (a1 : ByteArray) (r1 : ByteArray) (r2 : Bool) (w : World) (h : stringslite_CutPrefix.f a0 a1 = some (r1, r2)) :
  Calls Tryz.prog 284 #[.string a0, .string a1] w fun e w' => e = .returned (.tuple #[.string r1, .bool r2]) ∧ Drawn0 w w' := by
 unfold stringslite_CutPrefix.f at h
 have H := h
 clear h
 replace H := Option.bind_eq_some_iff.mp H
 obtain ⟨t221, A30, H⟩ := H
 replace H : (if t221 = true then (if 0 ≤ (a1.size : Int) then (if (a1.size : Int) ≤ (a0.size : Int) then (some (a0.extract ((a1.size : Int) : Int).toNat a0.size, true)) else (none)) else (none)) else (some (a0, false))) = some (r1, r2) := H
 have A3 := Aside0.mk A30
 clear A30
 revert H; refine itR ?L1p ?L1n
 case' L1p =>
  intro c4 H
  subst c4
  replace H := itN H
  obtain ⟨c5, H⟩ := H
  have c5b0 := eq_true c5
  have c5b1 := decide_eq_true c5
  clear c5
  replace H := itN H
  obtain ⟨c6, H⟩ := H
  have c6b0 := eq_true c6
  have c6b1 := decide_eq_true c6
  clear c6
  simp only [Option.some.injEq, Prod.mk.injEq] at H
  obtain ⟨rfl, rfl⟩ := H
 case' L1n =>
  intro c4 H
  replace c4 := Bool.eq_false_iff.mpr c4
  subst c4
  simp only [Option.some.injEq, Prod.mk.injEq] at H
  obtain ⟨rfl, rfl⟩ := H
 all_goals
  case _ =>
   go_enter Tryz.func284, Tryz.ntmps284
   try go_wp2_with (first | ((with_reducible refine gate_callee (f := 259) rfl ?_); refine goesA (some 8) Tryz.func259 #[.string a0, .string a1] ?_; (with_reducible refine (stringslite_HasPrefix.calls _ _ _ _ A3.out).mono ?_); rintro e w' ⟨rfl, ⟨nd, rfl⟩⟩; refine ⟨_, rfl, ?_⟩))
   go_ret2
   exact ⟨endS, drA⟩
/-! ### strings_CutPrefix: function 264 -/
def strings_CutPrefix.f (a0 : ByteArray) (a1 : ByteArray) : Option (ByteArray × Bool) := (stringslite_CutPrefix.f a0 a1).bind fun bt222 => (some (bt222.1, bt222.2))
set_option maxHeartbeats 8000000 in
set_option maxRecDepth 100000 in
theorem strings_CutPrefix.calls (a0 : ByteArray) (a1 : ByteArray) (r1 : ByteArray) (r2 : Bool) (w : World) (h : strings_CutPrefix.f a0 a1 = some (r1, r2)) :
  Calls Tryz.prog 264 #[.string a0, .string a1] w fun e w' => e = .returned (.tuple #[.string r1, .bool r2]) ∧ Drawn0 w w' := by
 unfold strings_CutPrefix.f at h
 have H := h
 clear h
 replace H := Option.bind_eq_some_iff.mp H
 obtain ⟨⟨t222, t223⟩, A30, H⟩ := H
 replace H : (some (t222, t223)) = some (r1, r2) := H
 have A3 := Aside0.mk A30
 clear A30
 simp only [Option.some.injEq, Prod.mk.injEq] at H
 obtain ⟨rfl, rfl⟩ := H
 go_enter Tryz.func264, Tryz.ntmps264
 go_wp2_with (first | ((with_reducible refine gate_callee (f := 284) rfl ?_); refine goesA (some 8) Tryz.func284 #[.string a0, .string a1] ?_; (with_reducible refine (stringslite_CutPrefix.calls a0 a1 t222 t223 _ A3.out).mono ?_); rintro e w' ⟨rfl, ⟨nd, rfl⟩⟩; refine ⟨_, rfl, ?_⟩))
 go_ret2
 exact ⟨endS, drA⟩

/-! ### value_goesOn: function 265 -/
def value_goesOn.f (k : Nat) (a0 : ByteArray) : Option (Bool) := (utf8_DecodeRuneInString.f a0).bind fun bt224 => (if bt224.2 > 0 then ((name_Letter.f k bt224.1).bind fun t226 => (if t226 = true then (some true) else (if bt224.1 = 95 then (some true) else (if bt224.1 = 45 then (some true) else (if bt224.1 ≥ 48 then (some (decide (bt224.1 ≤ 57))) else (some false)))))) else (some false))
theorem value_goesOn.mono : ∀ a0 k, LeO (value_goesOn.f k a0) (value_goesOn.f (k + 1) a0) := by
 intro a0 k
 unfold value_goesOn.f
 repeat' (with_reducible first | exact name_Letter.mono _ _ | exact LeO.refl _ | exact LeO.none _ | refine LeO.ite ?_ ?_ | refine LeO.bind ?_ (fun _ => ?_))
set_option maxHeartbeats 8000000 in
set_option maxRecDepth 100000 in
theorem value_goesOn.calls (k : Nat) (a0 : ByteArray) (r : Bool) (w : World) (hT : Tabs w) (h : value_goesOn.f k a0 = some r) :
  Calls Tryz.prog 265 #[.string a0] w fun e w' => e = .returned (.bool r) ∧ Below w.heap.size w w' := by
 have HB := Aside0.mk (Below.refl w.heap.size w)
 unfold value_goesOn.f at h
 have H := h
 clear h
 have HT := Aside0.mk hT
 clear hT
 replace H := Option.bind_eq_some_iff.mp H
 obtain ⟨⟨t224, t225⟩, A20, H⟩ := H
 replace H : (if t225 > 0 then ((name_Letter.f k t224).bind fun t226 => (if t226 = true then (some true) else (if t224 = 95 then (some true) else (if t224 = 45 then (some true) else (if t224 ≥ 48 then (some (decide (t224 ≤ 57))) else (some false)))))) else (some false)) = some r := H
 have A2 := Aside0.mk A20
 clear A20
 revert H; refine itR ?L3p ?L3n
 case' L3p =>
  intro c3 H
  have c3b0 := gtT c3
  clear c3
  replace H := bnA H
  obtain ⟨t226, A4, H⟩ := H
  revert H; refine itR ?L4p ?L4n
  case' L4p =>
   intro c5 H
   subst c5
   obtain rfl := Option.some.inj H
   have M1 := True.intro
  case' L4n =>
   intro c5 H
   replace c5 := Bool.eq_false_iff.mpr c5
   subst c5
   revert H; refine itR ?L5p ?L5n
   case' L5p =>
    intro c6 H
    obtain ⟨c6b0, c6b1⟩ := fcE c6
    clear c6
    obtain rfl := Option.some.inj H
    have M1 := True.intro
   case' L5n =>
    intro c6 H
    obtain ⟨c6b0, c6b1⟩ := fcN c6
    revert H; refine itR ?L6p ?L6n
    case' L6p =>
     intro c7 H
     obtain ⟨c7b0, c7b1⟩ := fcE c7
     clear c7
     obtain rfl := Option.some.inj H
     have M1 := True.intro
    case' L6n =>
     intro c7 H
     obtain ⟨c7b0, c7b1⟩ := fcN c7
     revert H; refine itR ?L7p ?L7n
     case' L7p =>
      intro c8 H
      have c8b0 := geT c8
      clear c8
      obtain rfl := Option.some.inj H
      have M1 := True.intro
     case' L7n =>
      intro c8 H
      have c8b0 := geF c8
      clear c8
      obtain rfl := Option.some.inj H
      have M1 := True.intro
 case' L3n =>
  intro c3 H
  have c3b0 := gtF c3
  clear c3
  obtain rfl := Option.some.inj H
  have M2 := True.intro
 all_goals
  case _ =>
   go_enter Tryz.func265, Tryz.ntmps265
   go_wp2_with (first | ((with_reducible refine gate_callee (f := 266) rfl ?_); refine goesA (some 7) Tryz.func266 #[.string a0] ?_; (with_reducible refine (utf8_DecodeRuneInString.calls _ _ _ _ ?side1 A2.out).mono ?_); (case side1 => exact Tabs.below HT.out (bwA)); rintro e w101 ⟨rfl, hb⟩; refine ⟨_, rfl, ?_⟩; replace HB := Aside0.mk (below_step (bwA) hb); (try clear hb); apply stopA; (case other => exact True.intro)))
   case _ =>
    first
     | clear M1
       try go_wp2_with (first | (go_at_call 197; (with_reducible refine (name_Letter.calls _ _ _ _ A4.out).mono ?_); rintro e w' ⟨rfl, ⟨nd, rfl⟩⟩))
       go_ret
       exact ⟨endA, bwA⟩
     | clear M2
       (try go_wp2_with (fail))
       go_ret
       exact ⟨endA, bwA⟩
/-! ### value_boolean: function 236 -/
def value_boolean.l0 : Nat → ByteArray → List ByteArray → Int → Int → Option (Int × Int × ByteArray × ByteArray × Int)
 | 0, _, _, _, _ => none
 | k + 1, x0, x9, x10, x11 => if x11 < x10 then (if 0 ≤ x11 then (if x11 < (x9.length : Int) then ((strings_CutPrefix.f x0 (rdOf ByteArray.empty x9 x11)).bind fun bt232 => (if bt232.2 = true then ((value_goesOn.f k bt232.1).bind fun t234 => (if t234 = true then (value_boolean.l0 k x0 x9 x10 (wrap64 (x11 + 1))) else (some (3, x11, (⟨#[]⟩ : ByteArray), bt232.1, 0)))) else (value_boolean.l0 k x0 x9 x10 (wrap64 (x11 + 1))))) else (none)) else (none)) else (some (0, 0, (⟨#[]⟩ : ByteArray), (⟨#[]⟩ : ByteArray), 3))
def value_boolean.f (k : Nat) (a0 : ByteArray) : Option (Int × Int × ByteArray × ByteArray × Int) := (some (([(⟨#[102, 97, 108, 115, 101]⟩ : ByteArray), (⟨#[116, 114, 117, 101]⟩ : ByteArray)] : List ByteArray) : List ByteArray)).bind fun y228 => (value_boolean.l0 k a0 y228 (y228.length : Int) 0)
theorem value_boolean.mono_l : ∀ k, (∀ y0 y1 y2 y3, LeO (value_boolean.l0 k y0 y1 y2 y3) (value_boolean.l0 (k + 1) y0 y1 y2 y3))
 | 0 => fun _ _ _ _ r h => by simp [value_boolean.l0] at h
 | k + 1 => by
  have ih0 := value_boolean.mono_l k
  ·intro y0 y1 y2 y3
   unfold value_boolean.l0
   repeat' (with_reducible first | exact ih0 _ _ _ _ | exact value_goesOn.mono _ _ | exact LeO.refl _ | exact LeO.none _ | refine LeO.ite ?_ ?_ | refine LeO.bind ?_ (fun _ => ?_))
theorem value_boolean.mono : ∀ a0 k, LeO (value_boolean.f k a0) (value_boolean.f (k + 1) a0) := by
 intro a0 k
 have ih0 := value_boolean.mono_l k
 unfold value_boolean.f
 repeat' (with_reducible first | exact ih0 _ _ _ _ | exact value_goesOn.mono _ _ | exact LeO.refl _ | exact LeO.none _ | refine LeO.ite ?_ ?_ | refine LeO.bind ?_ (fun _ => ?_))
set_option maxHeartbeats 8000000 in
set_option maxRecDepth 100000 in
theorem value_boolean.calls (k : Nat) (a0 : ByteArray) (r1 : Int) (r2 : Int) (r3 : ByteArray) (r4 : ByteArray) (r5 : Int) (w : World) (hT : Tabs w) (h : value_boolean.f k a0 = some (r1, r2, r3, r4, r5)) :
  Calls Tryz.prog 236 #[.string a0] w fun e w' => e = .returned (.tuple #[.agg #[.int .i64 r1, .int .i64 r2, .string r3], .string r4, .int .i64 r5]) ∧ Below w.heap.size w w' := by
 have hu74 := Tryz.underlying74
 have HB := Aside0.mk (Below.refl w.heap.size w)
 unfold value_boolean.f at h
 have H := h
 clear h
 have HT := Aside0.mk hT
 clear hT
 obtain ⟨y228, hy228⟩ : ∃ y_ : List ByteArray, y_ = (([(⟨#[102, 97, 108, 115, 101]⟩ : ByteArray), (⟨#[116, 114, 117, 101]⟩ : ByteArray)] : List ByteArray)) := ⟨_, rfl⟩
 replace H : (value_boolean.l0 k a0 y228 (y228.length : Int) 0) = some (r1, r2, r3, r4, r5) := by first | (rw [hy228]; with_reducible exact H) | (have H2_ := (Option.bind_some _ _).symm.trans H; rw [hy228]; with_reducible exact H2_) | (have H2_ := (Option.bind_some _ _).symm.trans H; with_reducible exact H2_) | with_reducible exact H | (rw [hy228]; exact H) | exact H
 have Ny228 := Aside0.mk hy228
 clear hy228
 have H' := Aside0.mk H
 clear H
 go_enter Tryz.func236, Tryz.ntmps236
 try go_wp2_with (first | ((with_reducible refine gate_dst (N := 2) rfl ?_); refine boxA 2 #[.int .i64 0, .int .i64 0, .string (⟨#[]⟩ : ByteArray)] 74 ?_; intro gb227 hg w101 hbox hb; have BK227 := Aside0.mk (hbox); have GW227 := Aside0.mk (hgW hg : w.heap.size ≤ gb227); have GE227 := Aside0.mk (hgW hg : w.heap.size ≤ gb227); replace HB := Aside0.mk (below_step (bwA) hb); clear hb hbox hg) | ((with_reducible refine gate_dst (N := 9) rfl ?_); refine Kd.R_lit Kd.string _ 9 ?hg (N := 9) ?hd (xs := ([(⟨#[102, 97, 108, 115, 101]⟩ : ByteArray), (⟨#[116, 114, 117, 101]⟩ : ByteArray)] : List ByteArray)) (inner := [.string (⟨#[102, 97, 108, 115, 101]⟩ : ByteArray), .string (⟨#[116, 114, 117, 101]⟩ : ByteArray)]) (ok := fun _ => True) (okp := fun _ => True) ?hr ?hp (fun _ hk => hk) trivial (Below.refl _ _) (Nat.le_refl _) (by simp) ?_; (case hd => rfl); (case hg => rfl); (case hr => first | (go_simp; done) | (go_simp; rfl)); (case hp => exact (Reps.one (show Kd.M Kd.string _ _ _ (⟨#[102, 97, 108, 115, 101]⟩ : ByteArray) [.string (⟨#[102, 97, 108, 115, 101]⟩ : ByteArray)] from rfl) (Reps.one (show Kd.M Kd.string _ _ _ (⟨#[116, 114, 117, 101]⟩ : ByteArray) [.string (⟨#[116, 114, 117, 101]⟩ : ByteArray)] from rfl) (Reps.none _ _)))); intro v229 w102 ho103 hb hg_ hnew_; clear hg_ hnew_; (first | rw [← Ny228.out] at ho103 | (simp only [Int.reduceToNat] at ho103; rw [← Ny228.out] at ho103)); have HO230 := Aside0.mk (Kd.R_lower ho103 (below_size (bwA))); replace BK227 := Aside0.mk (bkB BK227 hb); replace HB := Aside0.mk (below_step (bwA) hb); clear hb ho103; obtain ⟨Ao104, co104, eo104⟩ := Kd.R_slice HO230.out; subst eo104))
 go_loopg [11] k (fun kq v11 w' => ∃ (x11_1 : Int) (x228000_1 : Int) (x228001_1 : Int) (x228002_1 : ByteArray), v11 = .int .i64 x11_1 ∧ Aside0 (value_boolean.l0 kq a0 y228 (y228.length : Int) x11_1 = some (r1, r2, r3, r4, r5)) ∧ Aside0 (kq ≤ k) ∧ Aside0 (Kd.R Kd.string 9 w' w.heap.size (fun _ => True) (.slice Ao104 y228.length co104) y228) ∧ Aside0 (w'.heap[gb227]? = some (.cells #[.int .i64 x228000_1, .int .i64 x228001_1, .string x228002_1] 74 (0, 0))) ∧ Aside0 (Below w.heap.size w w'))
 case atStart => exact ⟨(0), (0), (0), ((⟨#[]⟩ : ByteArray)), (endS), H', ⟨Nat.le_refl _⟩, ⟨by (with_reducible repeat (first | apply Kd.R_alloc | apply Kd.R_drewN | apply Kd.R_drew)); exact HO230.out⟩, ⟨by (with_reducible repeat (first | refine blk_drewN ?_ _ | refine blk_drew ?_ | refine blk_alloc ?_ _)); exact BK227.out⟩, ⟨bwA⟩⟩
 case round =>
  clear H'
  try clear c2
  try clear p2
  try clear c23
  obtain ⟨x11_1, x228000_1, x228001_1, x228002_1, rfl, HA, HK1, HO_9, BK227, HB⟩ := hrel
  cases gk with
  | zero => exact absurd HA.out (by simp [value_boolean.l0])
  | succ k1 =>
   have H := HA.out
   clear HA
   simp only [value_boolean.l0] at H
   revert H; refine itR ?L4p ?L4n
   case' L4p =>
    intro c105 H
    have c105b0 := decide_eq_true c105
    clear c105
    replace H := itN H
    obtain ⟨c106, H⟩ := H
    have c106b0 := decide_eq_true c106
    clear c106
    replace H := itN H
    obtain ⟨c107, H⟩ := H
    have c107b0 := decide_eq_true c107
    clear c107
    replace H := bnA H
    obtain ⟨⟨t232, t233⟩, A108, H⟩ := H
    dsimp only at H
    revert H; refine itR ?L5p ?L5n
    case' L5p =>
     intro c109 H
     subst c109
     replace H := bnA H
     obtain ⟨t234, A110, H⟩ := H
     revert H; refine itR ?L6p ?L6n
     case' L6p =>
      intro c111 H
      subst c111
      have H' := Aside0.mk H
      clear H
      have M1 := True.intro
     case' L6n =>
      intro c111 H
      replace c111 := Bool.eq_false_iff.mpr c111
      subst c111
      simp only [Option.some.injEq, Prod.mk.injEq] at H
      obtain ⟨rfl, rfl, rfl, rfl, rfl⟩ := H
      have M2 := True.intro
    case' L5n =>
     intro c109 H
     replace c109 := Bool.eq_false_iff.mpr c109
     subst c109
     have H' := Aside0.mk H
     clear H
     have M3 := True.intro
   case' L4n =>
    intro c105 H
    have c105b0 := decide_eq_false c105
    clear c105
    simp only [Option.some.injEq, Prod.mk.injEq] at H
    obtain ⟨rfl, rfl, rfl, rfl, rfl⟩ := H
    have hcz201_0 := celA BK227.out 0 (.int .i64 x228000_1)
    have hcz201_1 := celA BK227.out 1 (.int .i64 x228001_1)
    have hcz201_2 := celA BK227.out 2 (.string x228002_1)
    have hfz201_0 := blk_frozen BK227.out 0
    have hfz201_1 := blk_frozen BK227.out 1
    have hfz201_2 := blk_frozen BK227.out 2
    go_wp2
    refine bodyPost_ret (results_ctt rfl _ _ gb227 74 #[.int .i64 0, .int .i64 0, .string (⟨#[]⟩ : ByteArray)] (0, 0) _ rfl (by refine blkP (cs := #[.int .i64 0, .int .i64 0, .string x228002_1]) ?_ 2 _; refine blkP (cs := #[.int .i64 0, .int .i64 x228001_1, .string x228002_1]) ?_ 1 _; refine blkP (cs := #[.int .i64 x228000_1, .int .i64 x228001_1, .string x228002_1]) ?_ 0 _; (with_reducible repeat (first | refine blk_drewN ?_ _ | refine blk_drew ?_ | refine blk_alloc ?_ _)); exact BK227.out) Tryz.underlying74 rfl (by kernel_rfl)) rfl ?_
    exact ⟨endA, bwA⟩
   all_goals
    case _ =>
     have p231 : 0 ≤ (x11_1 : Int) := odA
     have q231 : x11_1 < (y228.length : Int) := odA
     obtain ⟨ad231, e231, hx231_0⟩ := Kd.at_string (Kd.R_reads' HO_9.out).2.2 x11_1 p231 q231
     cases e231
     replace p231 := eq_true p231
     replace q231 := eq_true q231
     go_wp2_with (first | ((with_reducible refine gate_callee (f := 264) rfl ?_); refine goesA (some 19) Tryz.func264 #[.string a0, .string (rdOf ByteArray.empty y228 x11_1)] ?_; (with_reducible refine (strings_CutPrefix.calls _ _ _ _ _ A108.out).mono ?_); rintro e w' ⟨rfl, ⟨nd, rfl⟩⟩; refine ⟨_, rfl, ?_⟩; apply stopA; (case other => exact True.intro)))
     case _ =>
      first
       | clear M1
         try go_wp2_with (first | (go_at_call 265; (with_reducible refine (value_goesOn.calls _ _ _ _ ?side1 A110.out).mono ?_); (case side1 => exact Tabs.below HT.out (bwA)); rintro e w201 ⟨rfl, hb⟩; replace HO_9 := Aside0.mk (Kd.R_below (raA HO_9.out) hb); replace BK227 := Aside0.mk (bkB BK227 hb); replace HB := Aside0.mk (below_step (bwA) hb); (try clear hb)))
         go_roundg k1
         case measure => have := HK1.out; omega
         case rel => exact ⟨(wrap64 (x11_1 + 1)), (x228000_1), (x228001_1), (x228002_1), (endS), H', ⟨by have := HK1.out; omega⟩, ⟨by (with_reducible repeat (first | apply Kd.R_alloc | apply Kd.R_drewN | apply Kd.R_drew)); exact HO_9.out⟩, ⟨by (with_reducible repeat (first | refine blk_drewN ?_ _ | refine blk_drew ?_ | refine blk_alloc ?_ _)); exact BK227.out⟩, ⟨bwA⟩⟩
       | clear M2
         (try (rw [drewN_self wr]; generalize hq_ : World.drewN wr _ = wr; have n0_ : Aside0 (Kd.R Kd.string 9 wr w.heap.size (fun _ => True) (.slice (some ad231) y228.length co104) y228) := ⟨by rw [← hq_]; exact (raA HO_9.out)⟩; have n1_ : Aside0 (wr.heap[gb227]? = some (.cells #[.int .i64 x228000_1, .int .i64 x228001_1, .string x228002_1] 74 (0, 0))) := ⟨by rw [← hq_]; exact blkA⟩; have n2_ : Aside0 (Below w.heap.size w wr) := ⟨by rw [← hq_]; exact (bwA)⟩; clear HO_9 BK227 HB hq_; have HO_9 := n0_; have BK227 := n1_; have HB := n2_; clear n0_ n1_ n2_))
         try go_wp2_with (first | (go_at_call 265; (with_reducible refine (value_goesOn.calls _ _ _ _ ?side1 A110.out).mono ?_); (case side1 => exact Tabs.below HT.out (bwA)); rintro e w201 ⟨rfl, hb⟩; replace HO_9 := Aside0.mk (Kd.R_below (raA HO_9.out) hb); replace BK227 := Aside0.mk (bkB BK227 hb); replace HB := Aside0.mk (below_step (bwA) hb); (try clear hb); have hcz202_0 := celA BK227.out 0 (.int .i64 x228000_1); have hcz202_1 := celA BK227.out 1 (.int .i64 x228001_1); have hcz202_2 := celA BK227.out 2 (.string x228002_1); have hfz202_0 := blk_frozen BK227.out 0; have hfz202_1 := blk_frozen BK227.out 1; have hfz202_2 := blk_frozen BK227.out 2))
         refine bodyPost_ret (results_ctt rfl _ _ gb227 74 #[.int .i64 3, .int .i64 x11_1, .string (⟨#[]⟩ : ByteArray)] (0, 0) _ rfl (by refine blkP (cs := #[.int .i64 3, .int .i64 x11_1, .string x228002_1]) ?_ 2 _; refine blkP (cs := #[.int .i64 3, .int .i64 x228001_1, .string x228002_1]) ?_ 1 _; refine blkP (cs := #[.int .i64 x228000_1, .int .i64 x228001_1, .string x228002_1]) ?_ 0 _; (with_reducible repeat (first | refine blk_drewN ?_ _ | refine blk_drew ?_ | refine blk_alloc ?_ _)); exact BK227.out) Tryz.underlying74 rfl (by kernel_rfl)) rfl ?_
         exact ⟨endA, bwA⟩
       | clear M3
         (try go_wp2_with (fail))
         go_roundg k1
         case measure => have := HK1.out; omega
         case rel => exact ⟨(wrap64 (x11_1 + 1)), (x228000_1), (x228001_1), (x228002_1), (endS), H', ⟨by have := HK1.out; omega⟩, ⟨by (with_reducible repeat (first | apply Kd.R_alloc | apply Kd.R_drewN | apply Kd.R_drew)); exact HO_9.out⟩, ⟨by (with_reducible repeat (first | refine blk_drewN ?_ _ | refine blk_drew ?_ | refine blk_alloc ?_ _)); exact BK227.out⟩, ⟨bwA⟩⟩
end Go.Proofs.YtkdndabpaajkaaaGreatDoor.A
