-- By drv.py, the session's own driver round the kit's print: the machine's side of the laws, function by function. Not trusted: Lean checks it.
import Derived.Test.YtkdndabpaajkaaaGreatDoorAx0
namespace Go.Proofs.YtkdndabpaajkaaaGreatDoor.A
open Go.RowKit Go.Proofs.YtkdndabpaajkaaaGreatDoorW.PrintWords Go.Proofs.YtkdndabpaajkaaaGreatDoorW.PrintLast Go.Proofs.YtkdndabpaajkaaaGreatDoorW.PrintMore
attribute [local go_sem] max2_int min2_int max_two min_two max_three min_three max_four min_four   -- for this text's walks alone
set_option linter.unusedVariables false
set_option linter.unusedSimpArgs false

/-! ### caduceuslaw04_FewAttrs: function 33 -/
def caduceuslaw04_FewAttrs.l0 : Nat → List (S76) → Int → Option (Bool)
 | 0, _, _ => none
 | k + 1, x0, x3 => if x3 < (x0.length : Int) then (if x3 > 40 then (some false) else (if 0 ≤ x3 then (if (((rd_T76 x0 x3).f0).size : Int) > 200 then (some false) else (if (((rd_T76 x0 x3).f1.f2).size : Int) > 500 then (some false) else (caduceuslaw04_FewAttrs.l0 k x0 (wrap64 (x3 + 1))))) else (none))) else (some true)
def caduceuslaw04_FewAttrs.f (k : Nat) (l0 : List (S76)) : Option (Bool) := caduceuslaw04_FewAttrs.l0 k l0 0
theorem caduceuslaw04_FewAttrs.mono_l : ∀ k, (∀ y0 y1, LeO (caduceuslaw04_FewAttrs.l0 k y0 y1) (caduceuslaw04_FewAttrs.l0 (k + 1) y0 y1))
 | 0 => fun _ _ r h => by simp [caduceuslaw04_FewAttrs.l0] at h
 | k + 1 => by
  have ih0 := caduceuslaw04_FewAttrs.mono_l k
  ·intro y0 y1
   unfold caduceuslaw04_FewAttrs.l0
   repeat' (with_reducible first | exact ih0 _ _ | exact LeO.refl _ | exact LeO.none _ | refine LeO.ite ?_ ?_ | refine LeO.bind ?_ (fun _ => ?_))
theorem caduceuslaw04_FewAttrs.mono : ∀ a0 k, LeO (caduceuslaw04_FewAttrs.f k a0) (caduceuslaw04_FewAttrs.f (k + 1) a0) := by
 intro a0 k
 have ih0 := caduceuslaw04_FewAttrs.mono_l k
 unfold caduceuslaw04_FewAttrs.f
 repeat' (with_reducible first | exact ih0 _ _ | exact LeO.refl _ | exact LeO.none _ | refine LeO.ite ?_ ?_ | refine LeO.bind ?_ (fun _ => ?_))
set_option maxHeartbeats 8000000 in
set_option maxRecDepth 100000 in
theorem caduceuslaw04_FewAttrs.calls (k : Nat) (A0 : Option Addr) (c0 : Nat) (l0 : List (S76)) (r : Bool) (w : World) (hr0 : Kd.C k76 w A0 l0.length l0) (hc0 : l0.length ≤ c0) (h : caduceuslaw04_FewAttrs.f k l0 = some r) :
  Calls Tryz.prog 33 #[.slice A0 l0.length c0] w fun e w' => e = .returned (.bool r) ∧ Drawn0 w w' := by
 have HR0 := Aside0.mk hr0
 have HC0 := Aside0.mk hc0
 clear hr0 hc0
 unfold caduceuslaw04_FewAttrs.f at h
 have H := h
 clear h
 have H' := Aside0.mk H
 clear H
 go_enter Tryz.func33, Tryz.ntmps33
 go_wp2
 go_loopg [3] k (fun kq v3 w' => ∃ (x3_1 : Int), v3 = .int .i64 x3_1 ∧ Aside0 (caduceuslaw04_FewAttrs.l0 kq l0 x3_1 = some r) ∧ Aside0 (kq ≤ k) ∧ Drawn0 w w')
 case atStart => exact ⟨(0), (endS), H', ⟨Nat.le_refl _⟩, drA⟩
 case round =>
  clear H'
  try clear p2
  try clear c3
  try clear c33
  obtain ⟨x3_1, rfl, HA, HK1, ⟨m1, rfl⟩⟩ := hrel
  cases gk with
  | zero => exact absurd HA.out (by simp [caduceuslaw04_FewAttrs.l0])
  | succ k1 =>
   have H := HA.out
   clear HA
   simp only [caduceuslaw04_FewAttrs.l0] at H
   revert H; refine itR ?L7p ?L7n
   case' L7p =>
    intro c101 H
    have c101b0 := decide_eq_true c101
    clear c101
    revert H; refine itR ?L8p ?L8n
    case' L8p =>
     intro c102 H
     have c102b0 := gtT c102
     clear c102
     obtain rfl := Option.some.inj H
     have M1 := True.intro
    case' L8n =>
     intro c102 H
     have c102b0 := gtF c102
     clear c102
     replace H := itN H
     obtain ⟨c103, H⟩ := H
     have c103b0 := decide_eq_true c103
     clear c103
     revert H; refine itR ?L9p ?L9n
     case' L9p =>
      intro c104 H
      have c104b0 := gtT c104
      have c104b1 : decide (200 < ((rd_T76 l0 x3_1).f0).size) = true := decide_eq_true (by omega)
      clear c104
      obtain rfl := Option.some.inj H
      have M2 := True.intro
      have M3 := True.intro
     case' L9n =>
      intro c104 H
      have c104b0 := gtF c104
      have c104b1 : decide (200 < ((rd_T76 l0 x3_1).f0).size) = false := decide_eq_false (by omega)
      clear c104
      revert H; refine itR ?L10p ?L10n
      case' L10p =>
       intro c105 H
       have c105b0 := gtT c105
       have c105b1 : decide (500 < ((rd_T76 l0 x3_1).f1.f2).size) = true := decide_eq_true (by omega)
       clear c105
       obtain rfl := Option.some.inj H
       have M2 := True.intro
       have M4 := True.intro
       have M5 := True.intro
      case' L10n =>
       intro c105 H
       have c105b0 := gtF c105
       have c105b1 : decide (500 < ((rd_T76 l0 x3_1).f1.f2).size) = false := decide_eq_false (by omega)
       clear c105
       have H' := Aside0.mk H
       clear H
       have M2 := True.intro
       have M4 := True.intro
       have M6 := True.intro
   case' L7n =>
    intro c101 H
    have c101b0 := decide_eq_false c101
    clear c101
    obtain rfl := Option.some.inj H
    have M1 := True.intro
   all_goals
    case _ =>
     first
      | clear M1
        go_wp2
        go_ret
        exact ⟨endS, drA⟩
      | clear M2
        have p101 : 0 ≤ (x3_1 : Int) := odA
        have q101 : x3_1 < (l0.length : Int) := odA
        obtain ⟨ad101, e101, hx101_0, hx101_1, hx101_2, hx101_3⟩ := at_T76 HR0.out x3_1 p101 q101
        cases e101
        replace p101 := eq_true p101
        replace q101 := eq_true q101
        first
         | clear M3
           go_wp2
           go_ret
           exact ⟨endS, drA⟩
         | clear M4
           have p102 : 0 ≤ (x3_1 : Int) := odA
           have q102 : x3_1 < (l0.length : Int) := odA
           obtain ⟨ad102, e102, hx102_0, hx102_1, hx102_2, hx102_3⟩ := at_T76 HR0.out x3_1 p102 q102
           obtain rfl : ad101 = ad102 := (by injection e102)
           replace p102 := eq_true p102
           replace q102 := eq_true q102
           go_wp2
           first
            | clear M5
              go_ret
              exact ⟨endS, drA⟩
            | clear M6
              go_roundg k1
              case measure => have := HK1.out; omega
              case rel => exact ⟨(wrap64 (x3_1 + 1)), (endS), H', ⟨by have := HK1.out; omega⟩, drA⟩
/-! ### caduceuslaw06_Few: function 43 -/
def caduceuslaw06_Few.f (k : Nat) (a0_0 : Int) (a0_1 : Int) (a0_2 : Int) (a0_3 : ByteArray) (l0_4 : List (S76)) : Option (Bool) := if (a0_3.size : Int) ≤ 200 then ((caduceuslaw04_FewAttrs.f k l0_4).bind fun t104 => (some t104)) else (some false)
theorem caduceuslaw06_Few.mono : ∀ a0 a1 a2 a3 a4 k, LeO (caduceuslaw06_Few.f k a0 a1 a2 a3 a4) (caduceuslaw06_Few.f (k + 1) a0 a1 a2 a3 a4) := by
 intro a0 a1 a2 a3 a4 k
 unfold caduceuslaw06_Few.f
 repeat' (with_reducible first | exact caduceuslaw04_FewAttrs.mono _ _ | exact LeO.refl _ | exact LeO.none _ | refine LeO.ite ?_ ?_ | refine LeO.bind ?_ (fun _ => ?_))
set_option maxHeartbeats 8000000 in
set_option maxRecDepth 100000 in
theorem caduceuslaw06_Few.calls (k : Nat) (a0_0 : Int) (a0_1 : Int) (a0_2 : Int) (a0_3 : ByteArray) (A0_4 : Option Addr) (c0_4 : Nat) (l0_4 : List (S76)) (r : Bool) (w : World) (hr0_4 : Kd.C k76 w A0_4 l0_4.length l0_4) (hc0_4 : l0_4.length ≤ c0_4) (h : caduceuslaw06_Few.f k a0_0 a0_1 a0_2 a0_3 l0_4 = some r) :
  Calls Tryz.prog 43 #[.agg #[.int .i64 a0_0, .int .i64 a0_1, .int .i64 a0_2, .string a0_3, .slice A0_4 l0_4.length c0_4]] w fun e w' => e = .returned (.bool r) ∧ Below w.heap.size w w' := by
 have hu66 := Tryz.underlying66
 have HR0_4 := Aside0.mk hr0_4
 have HC0_4 := Aside0.mk hc0_4
 clear hr0_4 hc0_4
 have HB := Aside0.mk (Below.refl w.heap.size w)
 unfold caduceuslaw06_Few.f at h
 have H := h
 clear h
 revert H; refine itR ?L3p ?L3n
 case' L3p =>
  intro c2 H
  have c2b0 := decide_eq_true c2
  have c2b1 : decide (a0_3.size ≤ 200) = true := decide_eq_true (by omega)
  clear c2
  replace H := bnA H
  obtain ⟨t104, A3, H⟩ := H
  obtain rfl := Option.some.inj H
  have M1 := True.intro
 case' L3n =>
  intro c2 H
  have c2b0 := decide_eq_false c2
  have c2b1 : decide (a0_3.size ≤ 200) = false := decide_eq_false (by omega)
  clear c2
  obtain rfl := Option.some.inj H
  have M2 := True.intro
 all_goals
  case _ =>
   go_enter Tryz.func43, Tryz.ntmps43
   go_wp2_with (first | ((with_reducible refine gate_dst (N := 1) rfl ?_); refine boxA 1 #[.int .i64 a0_0, .int .i64 a0_1, .int .i64 a0_2, .string a0_3, .slice A0_4 l0_4.length c0_4] 66 ?_; intro gb103 hg w101 hbox hb; have BK103 := Aside0.mk (hbox); have GW103 := Aside0.mk (hgW hg : w.heap.size ≤ gb103); have GE103 := Aside0.mk (hgW hg : w.heap.size ≤ gb103); replace HB := Aside0.mk (below_step (bwA) hb); clear hb hbox hg; have hcz102_0 := celA BK103.out 0 (.int .i64 a0_0); have hcz102_1 := celA BK103.out 1 (.int .i64 a0_1); have hcz102_2 := celA BK103.out 2 (.int .i64 a0_2); have hcz102_3 := celA BK103.out 3 (.string a0_3); have hcz102_4 := celA BK103.out 4 (.slice A0_4 l0_4.length c0_4); have hfz102_0 := blk_frozen BK103.out 0; have hfz102_1 := blk_frozen BK103.out 1; have hfz102_2 := blk_frozen BK103.out 2; have hfz102_3 := blk_frozen BK103.out 3; have hfz102_4 := blk_frozen BK103.out 4; apply stopA; (case other => exact True.intro)))
   case _ =>
    first
     | clear M1
       try go_wp2_with (first | (go_at_call 33; (with_reducible refine (caduceuslaw04_FewAttrs.calls _ _ _ _ _ _ ?side1 ?side2 A3.out).mono ?_); (case side1 => repeat (first | exact (Kd.C_below HR0_4.out HB.out) | (with_reducible refine Kd.C_alloc ?_ _) | (with_reducible refine Kd.C_drewN ?_ _) | (with_reducible refine Kd.C_drew ?_))); (case side2 => exact HC0_4.out); rintro e w' ⟨rfl, ⟨nd, rfl⟩⟩))
       go_ret
       exact ⟨endA, bwA⟩
     | clear M2
       (try go_wp2_with (fail))
       go_ret
       exact ⟨endA, bwA⟩
/-! ### name_between: function 239 -/
def name_between.f (a0 : Int) (a1 : Int) (a2 : Int) : Option (Bool) := if a0 ≥ a1 then (some (decide (a0 ≤ a2))) else (some false)
set_option maxHeartbeats 8000000 in
set_option maxRecDepth 100000 in
theorem name_between.calls (a0 : Int) (a1 : Int) (a2 : Int) (r : Bool) (w : World) (h : name_between.f a0 a1 a2 = some r) :
  Calls Tryz.prog 239 #[.int .i32 a0, .int .i32 a1, .int .i32 a2] w fun e w' => e = .returned (.bool r) ∧ Drawn0 w w' := by
 unfold name_between.f at h
 have H := h
 clear h
 revert H; refine itR ?L1p ?L1n
 case' L1p =>
  intro c4 H
  have c4b0 := geT c4
  clear c4
  obtain rfl := Option.some.inj H
 case' L1n =>
  intro c4 H
  have c4b0 := geF c4
  clear c4
  obtain rfl := Option.some.inj H
 all_goals
  case _ =>
   go_enter Tryz.func239, Tryz.ntmps239
   go_wp2
   go_ret
   exact ⟨endS, drA⟩
/-! ### name_Letter: function 197 -/
def name_Letter.j0 : Nat → Int → Bool → Option (Bool)
 | 0, _, _ => none
 | k + 1, x0, x3 => if x3 = true then (some true) else ((name_between.f x0 192 591).bind fun t107 => (if t107 = true then (if x0 = 215 then (some false) else (some (x0 != 247))) else ((name_between.f x0 913 937).bind fun t108 => (if t108 = true then (some (x0 != 930)) else ((name_between.f x0 945 969).bind fun t109 => (if t109 = true then (some true) else ((name_between.f x0 1040 1103).bind fun t110 => (if t110 = true then (some true) else ((name_between.f x0 19968 40959).bind fun t111 => (some t111))))))))))
def name_Letter.f (k : Nat) (a0 : Int) : Option (Bool) := (name_between.f a0 65 90).bind fun t105 => (if t105 = true then (name_Letter.j0 k a0 t105) else ((name_between.f a0 97 122).bind fun t106 => (name_Letter.j0 k a0 t106)))
theorem name_Letter.mono_l : ∀ k, (∀ y0 y1, LeO (name_Letter.j0 k y0 y1) (name_Letter.j0 (k + 1) y0 y1))
 | 0 => fun _ _ r h => by simp [name_Letter.j0] at h
 | k + 1 => by
  have ih0 := name_Letter.mono_l k
  ·intro y0 y1
   unfold name_Letter.j0
   repeat' (with_reducible first | exact ih0 _ _ | exact LeO.refl _ | exact LeO.none _ | refine LeO.ite ?_ ?_ | refine LeO.bind ?_ (fun _ => ?_))
theorem name_Letter.mono : ∀ a0 k, LeO (name_Letter.f k a0) (name_Letter.f (k + 1) a0) := by
 intro a0 k
 have ih0 := name_Letter.mono_l k
 unfold name_Letter.f
 repeat' (with_reducible first | exact ih0 _ _ | exact LeO.refl _ | exact LeO.none _ | refine LeO.ite ?_ ?_ | refine LeO.bind ?_ (fun _ => ?_))
set_option maxHeartbeats 8000000 in
set_option maxRecDepth 100000 in
theorem name_Letter.calls (k : Nat) (a0 : Int) (r : Bool) (w : World) (h : name_Letter.f k a0 = some r) :
  Calls Tryz.prog 197 #[.int .i32 a0] w fun e w' => e = .returned (.bool r) ∧ Drawn0 w w' := by
 unfold name_Letter.f at h
 have H := h
 clear h
 replace H := Option.bind_eq_some_iff.mp H
 obtain ⟨t105, A20, H⟩ := H
 replace H : (if t105 = true then (name_Letter.j0 k a0 t105) else ((name_between.f a0 97 122).bind fun t106 => (name_Letter.j0 k a0 t106))) = some r := H
 have A2 := Aside0.mk A20
 clear A20
 have HC101 := Aside0.mk H
 clear H
 go_enter Tryz.func197, Tryz.ntmps197
 go_upto_if 3 with (first | ((with_reducible refine gate_callee (f := 239) rfl ?_); refine goesA (some 5) Tryz.func239 #[.int .i32 a0, .int .i32 65, .int .i32 90] ?_; (with_reducible refine (name_between.calls _ _ _ _ _ A2.out).mono ?_); rintro e w' ⟨rfl, ⟨nd, rfl⟩⟩; refine ⟨_, rfl, ?_⟩))
 (try simp only [Act.put, List.setIfInBounds_toArray, List.set_cons_zero, List.set_cons_succ])
 go_cut [3] (fun v3 wc => ∃ (kq : Nat) (x3_100 : Bool), v3 = .bool x3_100 ∧ Aside0 (name_Letter.j0 kq a0 x3_100 = some r) ∧ Aside0 (kq ≤ k) ∧ Drawn0 w wc)
 case first =>
  have H := HC101.out
  clear HC101
  revert H; refine itR ?L1p ?L1n
  case' L1p =>
   intro c102 H
   subst c102
   have H' := Aside0.mk H
   clear H
   go_wp2
   go_meet
   case rel => exact ⟨_, (true), (endS), H', ⟨by first | omega | exact Nat.le_refl _⟩, drA⟩
  case' L1n =>
   intro c102 H
   replace c102 := Bool.eq_false_iff.mpr c102
   subst c102
   replace H := bnA H
   obtain ⟨t106, A103, H⟩ := H
   have H' := Aside0.mk H
   clear H
   try go_wp2_with (first | ((with_reducible refine gate_callee (f := 239) rfl ?_); refine goesA (some 7) Tryz.func239 #[.int .i32 a0, .int .i32 97, .int .i32 122] ?_; (with_reducible refine (name_between.calls _ _ _ _ _ A103.out).mono ?_); rintro e w' ⟨rfl, ⟨nd, rfl⟩⟩; refine ⟨_, rfl, ?_⟩))
   go_meet
   case rel => exact ⟨_, (t106), (endS), H', ⟨by first | omega | exact Nat.le_refl _⟩, drA⟩
 case rest =>
  clear HC101
  try clear c1
  try clear c2
  try clear p2
  try clear c10
  try clear c19
  try clear c23
  obtain ⟨kq, x3_100, rfl, HA, HJ100, ⟨mc100, rfl⟩⟩ := hcut
  cases kq with
  | zero => exact absurd HA.out (by simp [name_Letter.j0])
  | succ kj100 =>
   have H := HA.out
   clear HA
   simp only [name_Letter.j0] at H
   revert H; refine itR ?L10p ?L10n
   case' L10p =>
    intro c102 H
    subst c102
    obtain rfl := Option.some.inj H
    go_wp2
    go_ret
    exact ⟨endS, drA⟩
   case' L10n =>
    intro c102 H
    replace c102 := Bool.eq_false_iff.mpr c102
    subst c102
    replace H := bnA H
    obtain ⟨t107, A103, H⟩ := H
    revert H; refine itR ?L11p ?L11n
    case' L11p =>
     intro c104 H
     subst c104
     revert H; refine itR ?L12p ?L12n
     case' L12p =>
      intro c105 H
      obtain ⟨c105b0, c105b1⟩ := fcE c105
      clear c105
      obtain rfl := Option.some.inj H
      have M2 := True.intro
     case' L12n =>
      intro c105 H
      obtain ⟨c105b0, c105b1⟩ := fcN c105
      obtain rfl := Option.some.inj H
      have M2 := True.intro
    case' L11n =>
     intro c104 H
     replace c104 := Bool.eq_false_iff.mpr c104
     subst c104
     replace H := bnA H
     obtain ⟨t108, A105, H⟩ := H
     revert H; refine itR ?L13p ?L13n
     case' L13p =>
      intro c106 H
      subst c106
      obtain rfl := Option.some.inj H
      have M3 := True.intro
      have M4 := True.intro
     case' L13n =>
      intro c106 H
      replace c106 := Bool.eq_false_iff.mpr c106
      subst c106
      replace H := bnA H
      obtain ⟨t109, A107, H⟩ := H
      revert H; refine itR ?L14p ?L14n
      case' L14p =>
       intro c108 H
       subst c108
       obtain rfl := Option.some.inj H
       have M3 := True.intro
       have M5 := True.intro
       have M6 := True.intro
      case' L14n =>
       intro c108 H
       replace c108 := Bool.eq_false_iff.mpr c108
       subst c108
       replace H := bnA H
       obtain ⟨t110, A109, H⟩ := H
       revert H; refine itR ?L15p ?L15n
       case' L15p =>
        intro c110 H
        subst c110
        obtain rfl := Option.some.inj H
        have M3 := True.intro
        have M5 := True.intro
        have M7 := True.intro
        have M8 := True.intro
       case' L15n =>
        intro c110 H
        replace c110 := Bool.eq_false_iff.mpr c110
        subst c110
        replace H := bnA H
        obtain ⟨t111, A111, H⟩ := H
        obtain rfl := Option.some.inj H
        have M3 := True.intro
        have M5 := True.intro
        have M7 := True.intro
        have M9 := True.intro
   all_goals
    case _ =>
     go_wp2_with (first | ((with_reducible refine gate_callee (f := 239) rfl ?_); refine goesA (some 10) Tryz.func239 #[.int .i32 a0, .int .i32 192, .int .i32 591] ?_; (with_reducible refine (name_between.calls _ _ _ _ _ A103.out).mono ?_); rintro e w' ⟨rfl, ⟨nd, rfl⟩⟩; refine ⟨_, rfl, ?_⟩; apply stopA; (case other => exact True.intro)))
     case _ =>
      first
       | clear M2
         (try go_wp2_with (fail))
         go_ret
         exact ⟨endS, drA⟩
       | clear M3
         go_wp2_with (first | ((with_reducible refine gate_callee (f := 239) rfl ?_); refine goesA (some 19) Tryz.func239 #[.int .i32 a0, .int .i32 913, .int .i32 937] ?_; (with_reducible refine (name_between.calls _ _ _ _ _ A105.out).mono ?_); rintro e w' ⟨rfl, ⟨nd, rfl⟩⟩; refine ⟨_, rfl, ?_⟩; apply stopA; (case other => exact True.intro)))
         case _ =>
          first
           | clear M4
             (try go_wp2_with (fail))
             go_ret
             exact ⟨endS, drA⟩
           | clear M5
             go_wp2_with (first | ((with_reducible refine gate_callee (f := 239) rfl ?_); refine goesA (some 23) Tryz.func239 #[.int .i32 a0, .int .i32 945, .int .i32 969] ?_; (with_reducible refine (name_between.calls _ _ _ _ _ A107.out).mono ?_); rintro e w' ⟨rfl, ⟨nd, rfl⟩⟩; refine ⟨_, rfl, ?_⟩; apply stopA; (case other => exact True.intro)))
             case _ =>
              first
               | clear M6
                 (try go_wp2_with (fail))
                 go_ret
                 exact ⟨endS, drA⟩
               | clear M7
                 go_wp2_with (first | (go_at_call 239; (with_reducible refine (name_between.calls _ _ _ _ _ A109.out).mono ?_); rintro e w' ⟨rfl, ⟨nd, rfl⟩⟩; apply stopA; (case other => exact True.intro)))
                 case _ =>
                  first
                   | clear M8
                     (try go_wp2_with (fail))
                     go_ret
                     exact ⟨endS, drA⟩
                   | clear M9
                     try go_wp2_with (first | (go_at_call 239; (with_reducible refine (name_between.calls _ _ _ _ _ A111.out).mono ?_); rintro e w' ⟨rfl, ⟨nd, rfl⟩⟩))
                     go_ret
                     exact ⟨endS, drA⟩
/-! ### name_digit: function 198 -/
def name_digit.f (a0 : Int) : Option (Bool) := (name_between.f a0 48 57).bind fun t112 => (some t112)
set_option maxHeartbeats 8000000 in
set_option maxRecDepth 100000 in
theorem name_digit.calls (a0 : Int) (r : Bool) (w : World) (h : name_digit.f a0 = some r) :
  Calls Tryz.prog 198 #[.int .i32 a0] w fun e w' => e = .returned (.bool r) ∧ Drawn0 w w' := by
 unfold name_digit.f at h
 have H := h
 clear h
 replace H := Option.bind_eq_some_iff.mp H
 obtain ⟨t112, A20, H⟩ := H
 replace H : (some t112) = some r := H
 have A2 := Aside0.mk A20
 clear A20
 obtain rfl := Option.some.inj H
 go_enter Tryz.func198, Tryz.ntmps198
 go_wp2_with (first | ((with_reducible refine gate_callee (f := 239) rfl ?_); refine goesA (some 4) Tryz.func239 #[.int .i32 a0, .int .i32 48, .int .i32 57] ?_; (with_reducible refine (name_between.calls a0 48 57 t112 _ A2.out).mono ?_); rintro e w' ⟨rfl, ⟨nd, rfl⟩⟩; refine ⟨_, rfl, ?_⟩))
 go_ret
 exact ⟨endS, drA⟩

end Go.Proofs.YtkdndabpaajkaaaGreatDoor.A
